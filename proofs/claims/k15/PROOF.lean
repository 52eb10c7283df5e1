import PyProof.Rows.All
import Wide.All
import OpenK.AllK
import Wide.FinOn
import PyProof.EqAt
import PyProof.EqKinds
import PyProof.TupleCall
import KE.KDictKeyed
import KE.KDictWalk
import HandS.ForMost
import HandS.ForExc
import HandS.Wide
import HandS.TryOnly
import HandS.TupAny
import HandS.Gcd
import HandS.Deep
import HandS.Iter
import KE.GoesEnum
import KE.GoesMore
import KE.GoesDict
import HandS.Zip
import KE.KExcSuper
import HandS.Exc
import HandS.TryMany
import HandS.ExcField
import HandS.List
import HandS.Ends
import HandS.ExcIs
import KE.RegKSuper
import PySem.Challenge.RW_deedroads_k15_whole_ends_of_records
set_option Elab.async false
set_option linter.all false
set_option maxRecDepth 100000
namespace DL
open PySem PySem.Spec PyProof.Rows L2

/-- plain data; a list or a dict bears a flag: true, it is owned (its holder alone knows it, it may be changed) -/
inductive D where
  | non | bl (b : Bool) | int (i : Int) | str (x : Str)
  | tup (xs : List D) | lst (own : Bool) (xs : List D) | dic (own : Bool) (kvs : List (D × D)) | set (xs : List Int) | scr (xs : List Int)
  | pin (a : Addr) (es : Array DictEntry) (ep : Nat)

mutual
/-- nothing in it may be changed any more -/
def D.fz : D → D
  | .non => .non | .bl b => .bl b | .int i => .int i | .str x => .str x
  | .tup xs => .tup (fzs xs)
  | .lst _ xs => .lst false (fzs xs)
  | .dic _ kvs => .dic false (fzp kvs)
  | .set xs => .set xs
  | .scr xs => .scr xs
  | .pin a es ep => .pin a es ep
def fzs : List D → List D
  | [] => []
  | d :: r => d.fz :: fzs r
def fzp : List (D × D) → List (D × D)
  | [] => []
  | (k, d) :: r => (k, d.fz) :: fzp r
end
mutual
theorem D.fz_fz : ∀ d : D, d.fz.fz = d.fz
  | .non | .bl _ | .int _ | .str _ | .set _ | .scr _ | .pin _ _ _ => by simp [D.fz]
  | .tup xs => by simp [D.fz, fzs_fzs xs]
  | .lst _ xs => by simp [D.fz, fzs_fzs xs]
  | .dic _ kvs => by simp [D.fz, fzp_fzp kvs]
theorem fzs_fzs : ∀ xs : List D, fzs (fzs xs) = fzs xs
  | [] => by simp [fzs]
  | d :: r => by simp [fzs, D.fz_fz d, fzs_fzs r]
theorem fzp_fzp : ∀ xs : List (D × D), fzp (fzp xs) = fzp xs
  | [] => by simp [fzp]
  | (k, d) :: r => by simp [fzp, D.fz_fz d, fzp_fzp r]
end
theorem fzs_eq (xs : List D) : fzs xs = xs.map D.fz := by
  induction xs with
  | nil => simp [fzs]
  | cons d r ih => simp [fzs, ih]
theorem fzp_eq (xs : List (D × D)) : fzp xs = xs.map fun p => (p.1, p.2.fz) := by
  induction xs with
  | nil => simp [fzp]
  | cons d r ih => obtain ⟨k, d⟩ := d; simp [fzp, ih]

mutual
/-- no frozen list or dict is in it: it holds nothing that another one may know -/
def D.clean : D → Bool
  | .non | .bl _ | .int _ | .str _ => true
  | .tup xs => cleans xs
  | .lst own xs => own && cleans xs
  | .dic own kvs => own && cleanp kvs
  | .set _ => false
  | .scr _ => true
  | .pin _ _ _ => false
def cleans : List D → Bool
  | [] => true
  | d :: r => d.clean && cleans r
def cleanp : List (D × D) → Bool
  | [] => true
  | (_, d) :: r => d.clean && cleanp r
end

mutual
def D.nk : D → Option NestedKey
  | .int i => some (.num i)
  | .str x => some (.text x)
  | .non => some .none
  | .tup xs => (nks xs).map .tup
  | _ => none
def nks : List D → Option (List NestedKey)
  | [] => some []
  | d :: r => match d.nk, nks r with
    | some k, some ks => some (k :: ks)
    | _, _ => none
end

/-- the same key -/
def D.keq (a b : D) : Bool := match a.nk, b.nk with
  | some x, some y => decide (x = y)
  | _, _ => false
def keyHash (w : World) (k : D) : Int := match k with
  | .int i => hashInt i
  | k => match k.nk with
    | some n => n.hash w
    | none => 0
/-- a key that a dict may have: an int, or a tuple of ints, texts, None and such tuples -/
def D.isKey (k : D) : Bool := match k with
  | .int _ => true
  | .tup xs => match nks xs with
    | some ns => decide ((NestedKey.tup ns).depth ≤ 8)
    | none => false
  | _ => false
def D.isI : D → Bool
  | .int _ => true
  | _ => false

mutual
theorem nk_clean : ∀ (d : D), d.nk.isSome = true → d.clean = true
  | .non, _ => rfl
  | .bl _, _ => rfl
  | .int _, _ => rfl
  | .str _, _ => rfl
  | .tup xs, h => by
    simp only [D.nk, Option.isSome_map] at h
    simp only [D.clean]
    exact nks_clean xs h
  | .lst _ _, h => by simp [D.nk] at h
  | .dic _ _, h => by simp [D.nk] at h
  | .set _, h => by simp [D.nk] at h
  | .scr _, h => by simp [D.nk] at h
  | .pin _ _ _, h => by simp [D.nk] at h
theorem nks_clean : ∀ (ds : List D), (nks ds).isSome = true → cleans ds = true
  | [], _ => rfl
  | d :: r, h => by
    simp only [nks] at h
    cases e1 : d.nk with
    | none => rw [e1] at h; simp at h
    | some k =>
      cases e2 : nks r with
      | none => rw [e1, e2] at h; simp at h
      | some ks =>
        simp only [cleans, Bool.and_eq_true]
        exact ⟨nk_clean d (by rw [e1]; rfl), nks_clean r (by rw [e2]; rfl)⟩
end
theorem key_clean {k : D} (h : k.isKey = true) : k.clean = true := by
  cases k with
  | int i => simp [D.clean]
  | tup xs =>
    refine nk_clean _ ?_
    simp only [D.isKey] at h
    simp only [D.nk, Option.isSome_map]
    cases e : nks xs with
    | none => rw [e] at h; simp at h
    | some ns => rfl
  | _ => simp [D.isKey] at h

/-- a dict with the entries es stands at a -/
def dphi (a : Addr) (es : Array DictEntry) (ep : Nat) : Heap → Prop := fun h => h.DictRaw a es ep

/-- a list that is not written any more -/
def FzL (P : Addr → Prop) (H : Hp) (a : Addr) (vs : List V) : Prop := H a = some (.lst vs) ∧ P a
theorem FzL.sql {K : PySem.W.Frag} {P : Addr → Prop} {H : Hp} {a : Addr} {vs : List V} (h : FzL P H a vs) : SqL K H a vs := .of h.1
theorem FzL.mono {P P' : Addr → Prop} {H H' : Hp} {a : Addr} {vs : List V} (h : FzL P H a vs) (e : Same H H') (p : ∀ a, P a → P' a) : FzL P' H' a vs := ⟨e _ _ h.1, p _ h.2⟩
theorem FzL.upd {P : Addr → Prop} {H : Hp} {a x : Addr} {o : HO} {vs : List V} (h : FzL P H a vs) (np : ¬ P x) : FzL P (L2.upd H x o) a vs :=
  ⟨by rw [upd_ne (fun z => by subst z; exact np h.2)]; exact h.1, h.2⟩
/-- the script: a list of ints that nobody writes -/
def Scr (K : PySem.W.Frag) (H : Hp) (a : Addr) (vs : List V) : Prop :=
  (∃ o, H a = some (.frz o (.lst vs))) ∨ ∃ (o : Obj) (its : Array Value) (n : Nat), K.lookup a = some o ∧ o.cls = .type "list" ∧ o.dict = none ∧ o.data = .seq its n ∧ its.size ≤ sizeLine ∧ Vals vs its.toList
theorem Scr.sql {K : PySem.W.Frag} {H : Hp} {a : Addr} {vs : List V} (h : Scr K H a vs) : SqL K H a vs := h.elim (fun h => .inl (.inr h)) .inr
theorem Scr.mono {K : PySem.W.Frag} {H H' : Hp} {a : Addr} {vs : List V} (h : Scr K H a vs) (e : Same H H') : Scr K H' a vs := h.elim (fun ⟨o, h⟩ => .inl ⟨o, e _ _ h⟩) .inr
section
variable (K : PySem.W.Frag) (w : World) (P : Addr → Prop) (H : Hp)
mutual
inductive Rep : D → V → List Addr → Prop
  | non : Rep .non .non []
  | bl (b : Bool) : Rep (.bl b) (.bl b) []
  | int (i : Int) : Rep (.int i) (.int i) []
  | str (x : Str) : Rep (.str x) (.str x) []
  | tup {a : Addr} {vs : List V} {ds : List D} {as : List Addr} : H a = some (.tup vs) → Reps ds vs as → Rep (.tup ds) (.ref a) as
  | scr {a : Addr} {xs : List Int} : Scr K H a (xs.map V.int) → Rep (.scr xs) (.ref a) []
  | lstF {a : Addr} {vs : List V} {ds : List D} : FzL P H a vs → Reps ds vs [] → Rep (.lst false ds) (.ref a) []
  | lstO {a : Addr} {vs : List V} {ds : List D} {as : List Addr} : H a = some (.lst vs) → Reps ds vs as → Rep (.lst true ds) (.ref a) (a :: as)
  | dicF {a : Addr} {es : Array DictEntry} {ep : Nat} {kvs : List (D × D)} : H a = some (.ext (dphi a es ep)) → P a → (a == sysModules) = false → es.size ≤ sizeLine → EReps es.toList kvs [] →
      (kvs.map (·.1)).Nodup → Rep (.dic false kvs) (.ref a) []
  | dicO {a : Addr} {es : Array DictEntry} {ep : Nat} {kvs : List (D × D)} {as : List Addr} : H a = some (.ext (dphi a es ep)) → (a == sysModules) = false → es.size ≤ sizeLine → EReps es.toList kvs as →
      (kvs.map (·.1)).Nodup → Rep (.dic true kvs) (.ref a) (a :: as)
  | set {a : Addr} {S : Int → Bool} {n : Nat} {xs : List Int} : H a = some (.set S n) → P a → (∀ i, S i = true ↔ i ∈ xs) → n = xs.length → xs.Nodup → Rep (.set xs) (.ref a) []
  | pin {a : Addr} {es : Array DictEntry} {ep : Nat} : H a = some (.ext (dphi a es ep)) → P a → Rep (.pin a es ep) (.bl true) []
inductive Reps : List D → List V → List Addr → Prop
  | nil : Reps [] [] []
  | cons {d : D} {v : V} {as : List Addr} {ds : List D} {vs : List V} {bs : List Addr} : Rep d v as → Reps ds vs bs → Reps (d :: ds) (v :: vs) (as ++ bs)
inductive EReps : List DictEntry → List (D × D) → List Addr → Prop
  | enil : EReps [] [] []
  | econs {e : DictEntry} {k d : D} {kv v : V} {as : List Addr} {es : List DictEntry} {kvs : List (D × D)} {bs : List Addr} : k.isKey = true → RelV kv e.key → Rep k kv [] → e.hash = keyHash w k →
      RelV v e.val → Rep d v as → EReps es kvs bs → EReps (e :: es) ((k, d) :: kvs) (as ++ bs)
end
end

section
variable {K : PySem.W.Frag} {w : World} {P P' : Addr → Prop} {H H' : Hp}
theorem same_sql {a : Addr} {xs : List V} (e : Same H H') (h : SqL K H a xs) : SqL K H' a xs := e.seq h

mutual
theorem Rep.mono (e : Same H H') (p : ∀ a, P a → P' a) : ∀ {d : D} {v : V} {as : List Addr}, Rep K w P H d v as → Rep K w P' H' d v as
  | _, _, _, .non => .non
  | _, _, _, .bl b => .bl b
  | _, _, _, .int i => .int i
  | _, _, _, .str x => .str x
  | _, _, _, .tup h r => .tup (e _ _ h) (Reps.mono e p r)
  | _, _, _, .lstF h r => .lstF (h.mono e p) (Reps.mono e p r)
  | _, _, _, .lstO h r => .lstO (e _ _ h) (Reps.mono e p r)
  | _, _, _, .dicF h q s z r n => .dicF (e _ _ h) (p _ q) s z (EReps.mono e p r) n
  | _, _, _, .dicO h s z r n => .dicO (e _ _ h) s z (EReps.mono e p r) n
  | _, _, _, .set h q s z n => .set (e _ _ h) (p _ q) s z n
  | _, _, _, .scr h => .scr (h.mono e)
  | _, _, _, .pin h q => .pin (e _ _ h) (p _ q)
theorem Reps.mono (e : Same H H') (p : ∀ a, P a → P' a) : ∀ {ds : List D} {vs : List V} {as : List Addr}, Reps K w P H ds vs as → Reps K w P' H' ds vs as
  | _, _, _, .nil => .nil
  | _, _, _, .cons a b => .cons (Rep.mono e p a) (Reps.mono e p b)
theorem EReps.mono (e : Same H H') (p : ∀ a, P a → P' a) : ∀ {es : List DictEntry} {kvs : List (D × D)} {as : List Addr}, EReps K w P H es kvs as → EReps K w P' H' es kvs as
  | _, _, _, .enil => .enil
  | _, _, _, .econs ik rk rkk hh rv a b => .econs ik rk (Rep.mono e p rkk) hh rv (Rep.mono e p a) (EReps.mono e p b)
end
mutual
/-- all is frozen: what was owned is told to be frozen -/
theorem Rep.fz (p : ∀ a, P a → P' a) : ∀ {d : D} {v : V} {as : List Addr}, Rep K w P H d v as → (∀ a ∈ as, P' a) → Rep K w P' H d.fz v []
  | _, _, _, .non, _ => .non
  | _, _, _, .bl b, _ => .bl b
  | _, _, _, .int i, _ => .int i
  | _, _, _, .str x, _ => .str x
  | _, _, _, .tup h r, q => by simp only [D.fz]; exact .tup h (Reps.fz p r q)
  | _, _, _, .lstF h r, _ => by simp only [D.fz]; exact .lstF (h.mono (.refl _) p) (Reps.fz p r (fun _ z => nomatch z))
  | _, _, _, .lstO h r, q => by simp only [D.fz]; exact .lstF ⟨h, q _ List.mem_cons_self⟩ (Reps.fz p r fun a z => q a (List.mem_cons_of_mem _ z))
  | _, _, _, .dicF h k s z r n, _ => by simp only [D.fz]; exact .dicF h (p _ k) s z (EReps.fz p r (fun _ z => nomatch z)) (by rw [fzp_eq, List.map_map]; exact n)
  | _, _, _, .dicO h s z r n, q => by simp only [D.fz]; exact .dicF h (q _ List.mem_cons_self) s z (EReps.fz p r fun a z => q a (List.mem_cons_of_mem _ z)) (by rw [fzp_eq, List.map_map]; exact n)
  | _, _, _, .set h k s z n, _ => by simp only [D.fz]; exact .set h (p _ k) s z n
  | _, _, _, .scr h, _ => by simp only [D.fz]; exact .scr h
  | _, _, _, .pin h q, _ => by simp only [D.fz]; exact .pin h (p _ q)
theorem Reps.fz (p : ∀ a, P a → P' a) : ∀ {ds : List D} {vs : List V} {as : List Addr}, Reps K w P H ds vs as → (∀ a ∈ as, P' a) → Reps K w P' H (fzs ds) vs []
  | _, _, _, .nil, _ => by simp only [fzs]; exact .nil
  | _, _, _, .cons a b, q => by simp only [fzs]; exact .cons (as := []) (bs := []) (Rep.fz p a fun x z => q x (List.mem_append_left _ z)) (Reps.fz p b fun x z => q x (List.mem_append_right _ z))
theorem EReps.fz (p : ∀ a, P a → P' a) : ∀ {es : List DictEntry} {kvs : List (D × D)} {as : List Addr}, EReps K w P H es kvs as → (∀ a ∈ as, P' a) → EReps K w P' H es (fzp kvs) []
  | _, _, _, .enil, _ => by simp only [fzp]; exact .enil
  | _, _, _, .econs ik rk rkk hh rv a b, q => by
    simp only [fzp]
    exact .econs (as := []) (bs := []) ik rk (rkk.mono (fun _ _ z => z) p) hh rv (Rep.fz p a fun x z => q x (List.mem_append_left _ z)) (EReps.fz p b fun x z => q x (List.mem_append_right _ z))
end
def Ob (H : Hp) (a : Addr) : Prop := (∃ vs, H a = some (.lst vs)) ∨ ∃ es ep, H a = some (.ext (dphi a es ep))
mutual
/-- the owned addresses stand in the heap, and hold a list or a dict -/
theorem Rep.there : ∀ {d : D} {v : V} {as : List Addr}, Rep K w P H d v as → ∀ a ∈ as, Ob H a
  | _, _, _, .non, a, z => nomatch z
  | _, _, _, .bl b, a, z => nomatch z
  | _, _, _, .int i, a, z => nomatch z
  | _, _, _, .str x, a, z => nomatch z
  | _, _, _, .tup h r, a, z => Reps.there r a z
  | _, _, _, .lstF h r, a, z => nomatch z
  | _, _, _, .lstO h r, a, z => by
    rcases List.mem_cons.mp z with rfl | z
    · exact .inl ⟨_, h⟩
    · exact Reps.there r a z
  | _, _, _, .dicF h k s _ r n, a, z => nomatch z
  | _, _, _, .dicO h s _ r n, a, z => by
    rcases List.mem_cons.mp z with rfl | z
    · exact .inr ⟨_, _, h⟩
    · exact EReps.there r a z
  | _, _, _, .set h k s _ n, a, z => nomatch z
  | _, _, _, .scr h, a, z => nomatch z
  | _, _, _, .pin h q, a, z => nomatch z
theorem Reps.there : ∀ {ds : List D} {vs : List V} {as : List Addr}, Reps K w P H ds vs as → ∀ a ∈ as, Ob H a
  | _, _, _, .nil, a, z => nomatch z
  | _, _, _, .cons x y, a, z => (List.mem_append.mp z).elim (Rep.there x a) (Reps.there y a)
theorem EReps.there : ∀ {es : List DictEntry} {kvs : List (D × D)} {as : List Addr}, EReps K w P H es kvs as → ∀ a ∈ as, Ob H a
  | _, _, _, .enil, a, z => nomatch z
  | _, _, _, .econs ik rk rkk hh rv x y, a, z => (List.mem_append.mp z).elim (Rep.there x a) (EReps.there y a)
end
theorem Ob.some {a : Addr} (h : Ob H a) : ∃ o, H a = some o := by
  rcases h with ⟨_, h⟩ | ⟨_, _, h⟩
  · exact ⟨_, h⟩
  · exact ⟨_, h⟩
/-- what is known where the thing at x is written -/
structure Wr (P : Addr → Prop) (H : Hp) (x : Addr) : Prop where
  ob : Ob H x
  np : ¬ P x
theorem Wr.tup {x a : Addr} {ts : List V} (W : Wr P H x) (h : H a = some (.tup ts)) : a ≠ x := fun z => by
  subst z
  rcases W.ob with ⟨_, q⟩ | ⟨_, _, q⟩
  · rw [q] at h; cases h
  · rw [q] at h; cases h
theorem Wr.set {x a : Addr} {S : Int → Bool} {n : Nat} (W : Wr P H x) (h : H a = some (.set S n)) : a ≠ x := fun z => by
  subst z
  rcases W.ob with ⟨_, q⟩ | ⟨_, _, q⟩
  · rw [q] at h; cases h
  · rw [q] at h; cases h
theorem Wr.scr {x a : Addr} {o : HO} {vs : List V} (W : Wr P H x) (h : Scr K H a vs) : Scr K (L2.upd H x o) a vs := by
  rcases h with ⟨ob, h⟩ | h
  · refine .inl ⟨ob, ?_⟩
    rw [upd_ne]
    · exact h
    · intro z
      subst z
      rcases W.ob with ⟨_, q⟩ | ⟨_, _, q⟩
      · rw [q] at h; cases h
      · rw [q] at h; cases h
  · exact .inr h
theorem Wr.ne {x a : Addr} (W : Wr P H x) (h : P a) : a ≠ x := fun z => by subst z; exact W.np h
theorem Wr.sq {x a : Addr} {o : HO} {vs : List V} (z : a ≠ x) (h : SqL K H a vs) : SqL K (L2.upd H x o) a vs := by
  rcases h with (h | ⟨ob, h⟩) | h
  · exact .inl (.inl (by rw [upd_ne z]; exact h))
  · exact .inl (.inr ⟨ob, by rw [upd_ne z]; exact h⟩)
  · exact .inr h
mutual
/-- the thing at x is written: what is not of x stays -/
theorem Rep.upd {x : Addr} {o : HO} (W : Wr P H x) : ∀ {d : D} {v : V} {as : List Addr}, Rep K w P H d v as → x ∉ as → Rep K w P (L2.upd H x o) d v as
  | _, _, _, .non, _ => .non
  | _, _, _, .bl b, _ => .bl b
  | _, _, _, .int i, _ => .int i
  | _, _, _, .str x, _ => .str x
  | _, _, _, .tup h r, q => .tup (by rw [upd_ne (W.tup h)]; exact h) (Reps.upd W r q)
  | _, _, _, .lstF h r, _ => .lstF (h.upd W.np) (Reps.upd W r (fun z => nomatch z))
  | _, _, _, .lstO h r, q => .lstO (by rw [upd_ne (fun z => q (by rw [z]; exact List.mem_cons_self))]; exact h) (Reps.upd W r fun z => q (List.mem_cons_of_mem _ z))
  | _, _, _, .dicF h k s z r n, _ => .dicF (by rw [upd_ne (W.ne k)]; exact h) k s z (EReps.upd W r (fun z => nomatch z)) n
  | _, _, _, .dicO h s z r n, q => .dicO (by rw [upd_ne (fun z => q (by rw [z]; exact List.mem_cons_self))]; exact h) s z (EReps.upd W r fun z => q (List.mem_cons_of_mem _ z)) n
  | _, _, _, .set h k s z n, _ => .set (by rw [upd_ne (W.set h)]; exact h) k s z n
  | _, _, _, .scr h, _ => .scr (W.scr h)
  | _, _, _, .pin h q, _ => .pin (by rw [upd_ne (W.ne q)]; exact h) q
theorem Reps.upd {x : Addr} {o : HO} (W : Wr P H x) : ∀ {ds : List D} {vs : List V} {as : List Addr}, Reps K w P H ds vs as → x ∉ as → Reps K w P (L2.upd H x o) ds vs as
  | _, _, _, .nil, _ => .nil
  | _, _, _, .cons a b, q => .cons (Rep.upd W a fun z => q (List.mem_append_left _ z)) (Reps.upd W b fun z => q (List.mem_append_right _ z))
theorem EReps.upd {x : Addr} {o : HO} (W : Wr P H x) : ∀ {es : List DictEntry} {kvs : List (D × D)} {as : List Addr}, EReps K w P H es kvs as → x ∉ as → EReps K w P (L2.upd H x o) es kvs as
  | _, _, _, .enil, _ => .enil
  | _, _, _, .econs ik rk rkk hh rv a b, q => .econs ik rk (Rep.upd W rkk (fun z => nomatch z)) hh rv (Rep.upd W a fun z => q (List.mem_append_left _ z)) (EReps.upd W b fun z => q (List.mem_append_right _ z))
end
mutual
/-- what is clean does not hang on what is frozen -/
theorem Rep.unP : ∀ {d : D} {v : V} {as : List Addr}, Rep K w P H d v as → d.clean = true → Rep K w P' H d v as
  | _, _, _, .non, _ => .non
  | _, _, _, .bl b, _ => .bl b
  | _, _, _, .int i, _ => .int i
  | _, _, _, .str x, _ => .str x
  | _, _, _, .tup h r, q => .tup h (Reps.unP r (by simpa only [D.clean] using q))
  | _, _, _, .lstF h r, q => by simp [D.clean] at q
  | _, _, _, .lstO h r, q => .lstO h (Reps.unP r (by simpa only [D.clean, Bool.true_and] using q))
  | _, _, _, .dicF h k s z r n, q => by simp [D.clean] at q
  | _, _, _, .dicO h s z r n, q => .dicO h s z (EReps.unP r (by simpa only [D.clean, Bool.true_and] using q)) n
  | _, _, _, .set h k s z n, q => by simp [D.clean] at q
  | _, _, _, .scr h, q => .scr h
  | _, _, _, .pin h k, q => by simp [D.clean] at q
theorem Reps.unP : ∀ {ds : List D} {vs : List V} {as : List Addr}, Reps K w P H ds vs as → cleans ds = true → Reps K w P' H ds vs as
  | _, _, _, .nil, _ => .nil
  | _, _, _, .cons a b, q => by
    simp only [cleans, Bool.and_eq_true] at q
    exact .cons (Rep.unP a q.1) (Reps.unP b q.2)
theorem EReps.unP : ∀ {es : List DictEntry} {kvs : List (D × D)} {as : List Addr}, EReps K w P H es kvs as → cleanp kvs = true → EReps K w P' H es kvs as
  | _, _, _, .enil, _ => .enil
  | _, _, _, .econs ik rk rkk hh rv a b, q => by
    simp only [cleanp, Bool.and_eq_true] at q
    exact .econs ik rk (Rep.unP rkk (key_clean ik)) hh rv (Rep.unP a q.1) (EReps.unP b q.2)
end
mutual
/-- what is frozen owns nothing -/
theorem Rep.fz_nil : ∀ {d : D} {v : V} {as : List Addr}, Rep K w P H d.fz v as → as = []
  | .non, _, _, h => by rw [D.fz] at h; cases h; rfl
  | .bl _, _, _, h => by rw [D.fz] at h; cases h; rfl
  | .int _, _, _, h => by rw [D.fz] at h; cases h; rfl
  | .str _, _, _, h => by rw [D.fz] at h; cases h; rfl
  | .tup xs, _, _, h => by
    rw [D.fz] at h
    cases h with
    | tup _ r => exact Reps.fz_nil (ds := xs) r
  | .lst _ xs, _, _, h => by rw [D.fz] at h; cases h; rfl
  | .dic _ xs, _, _, h => by rw [D.fz] at h; cases h; rfl
  | .set _, _, _, h => by rw [D.fz] at h; cases h; rfl
  | .scr _, _, _, h => by rw [D.fz] at h; cases h; rfl
  | .pin _ _ _, _, _, h => by rw [D.fz] at h; cases h; rfl
theorem Reps.fz_nil : ∀ {ds : List D} {vs : List V} {as : List Addr}, Reps K w P H (fzs ds) vs as → as = []
  | [], _, _, h => by rw [fzs] at h; cases h; rfl
  | d :: ds, _, _, h => by
    rw [fzs] at h
    cases h with
    | cons a b => rw [Rep.fz_nil (d := d) a, Reps.fz_nil (ds := ds) b]; rfl
end
end
end DL

set_option Elab.async false
set_option linter.all false
set_option maxRecDepth 100000
namespace DL
open PySem PySem.Spec L2
open PyProof.Rows hiding St

/-- what an expression comes to -/
inductive ER where
  | val (d : D) | exc (c : Str) (n : Int) | stuck
inductive LR where
  | vals (ds : List D) | exc (c : Str) (n : Int) | stuck
abbrev Env := List (Option D)
abbrev Ev := Env → ER
abbrev Lv := Env → LR

/-- an own error of the class c with the number n -/
def XRep (mg : Str → Option Value) (H : Hp) (cls : Value) (d : Option Addr) (c : Str) (n : Int) : Prop :=
  ∃ C dx, mg c = some (.ref C) ∧ cls = .ref C ∧ d = some dx ∧ H dx = some (.xd [(("at" : Str), .int n)])
theorem XRep.mono {mg : Str → Option Value} {H H' : Hp} {cls : Value} {d : Option Addr} {c : Str} {n : Int} (x : XRep mg H cls d c n) (e : Same H H') : XRep mg H' cls d c n := by
  obtain ⟨C, dx, a, b, h, q⟩ := x
  exact ⟨C, dx, a, b, h, e _ _ q⟩

/-- the heap grows from H to H', what is frozen from P to P': by things of as, and new ones -/
structure Grow (P P' : Addr → Prop) (as : List Addr) (H H' : Hp) : Prop where
  same : Same H H'
  le : ∀ a, P a → P' a
  new : ∀ a, P' a → P a ∨ a ∈ as ∨ (H a = none ∧ ∃ o, H' a = some o)
structure Own (P : Addr → Prop) (as : List Addr) : Prop where
  nd : as.Nodup
  np : ∀ a ∈ as, ¬ P a
theorem Own.nil {P : Addr → Prop} : Own P [] := ⟨.nil, fun _ z => nomatch z⟩
section
variable (K : PySem.W.Frag) (w : World)
def Out (P : Addr → Prop) (as : List Addr) (H H' : Hp) (r : D) (v : V) : Prop :=
  ∃ P' as', Grow P P' as H H' ∧ Rep K w P' H' r v as' ∧ Own P' as' ∧ ∀ a ∈ as', a ∈ as ∨ H a = none
def OutL (P : Addr → Prop) (as : List Addr) (H H' : Hp) (rs : List D) (vs : List V) : Prop :=
  ∃ P' as', Grow P P' as H H' ∧ Reps K w P' H' rs vs as' ∧ Own P' as' ∧ ∀ a ∈ as', a ∈ as ∨ H a = none
/-- what is frozen stands in the heap -/
def Fz (P : Addr → Prop) (H : Hp) : Prop := ∀ a, P a → ∃ o, H a = some o
/-- the slots of rd, read -/
structure View (P : Addr → Prop) (H : Hp) (rd : List Nat) (ρ : Env) (σ : St) : Prop where
  fz : Fz P H
  len : ρ.length = σ.length
  get : ∀ i ∈ rd, ∀ d, ρ[i]? = some (some d) → ∃ v, σ[i]? = some (some v) ∧ Rep K w P H d.fz v []
end
section
variable {K : PySem.W.Frag} {w : World} {P P' : Addr → Prop} {H H' H1 H2 : Hp} {as : List Addr} {r : D} {v : V} {rs : List D} {vs : List V}
theorem Grow.refl : Grow P P as H H := ⟨.refl _, fun _ h => h, fun _ h => .inl h⟩
theorem Grow.of_same (e : Same H H') : Grow P P as H H' := ⟨e, fun _ h => h, fun _ h => .inl h⟩
theorem View.mono {rd rd' : List Nat} {ρ : Env} {σ : St} (h : View K w P H rd ρ σ) (e : Same H H') (s : ∀ i ∈ rd', i ∈ rd) : View K w P H' rd' ρ σ := ⟨fun a q => by obtain ⟨o, z⟩ := h.fz a q; exact ⟨o, e _ _ z⟩, h.len, fun i hi d hd => by
  obtain ⟨v, a, b⟩ := h.get i (s i hi) d hd
  exact ⟨v, a, b.mono e fun _ z => z⟩⟩
theorem View.same {rd : List Nat} {ρ : Env} {σ : St} (h : View K w P H rd ρ σ) (e : Same H H') : View K w P H' rd ρ σ := h.mono e fun _ z => z
theorem View.left {rd rd' : List Nat} {ρ : Env} {σ : St} (h : View K w P H (rd ++ rd') ρ σ) : View K w P H rd ρ σ := h.mono (.refl _) fun _ z => List.mem_append_left _ z
theorem View.right {rd rd' : List Nat} {ρ : Env} {σ : St} (h : View K w P H (rd ++ rd') ρ σ) : View K w P H rd' ρ σ := h.mono (.refl _) fun _ z => List.mem_append_right _ z
theorem Out.same (o : Out K w P as H H' r v) : Same H H' := let ⟨_, _, g, _⟩ := o; g.same
theorem OutL.same (o : OutL K w P as H H' rs vs) : Same H H' := let ⟨_, _, g, _⟩ := o; g.same
/-- something that is carried by value -/
theorem Out.plain (e : Same H H') (h : Rep K w P H' r v []) : Out K w P as H H' r v := ⟨P, [], .of_same e, h, .nil, fun _ z => nomatch z⟩
theorem OutL.nil : OutL K w P [] H H [] [] := ⟨P, [], .refl, .nil, .nil, fun _ z => nomatch z⟩
/-- one thing, then others -/
theorem Out.cons (a : Out K w P [] H H1 r v) (b : OutL K w P [] H1 H2 rs vs) : OutL K w P [] H H2 (r :: rs) (v :: vs) := by
  obtain ⟨P1, a1, g1, r1, o1, n1⟩ := a
  obtain ⟨P2, a2, g2, r2, o2, n2⟩ := b
  have e2 := g2.same
  have th := r1.there
  have al1 : ∀ x ∈ a1, H1 x ≠ none := fun x hx q => by obtain ⟨o, ho⟩ := (th x hx).some; rw [q] at ho; cases ho
  have fr2 : ∀ x ∈ a2, H1 x = none := fun x hx => (n2 x hx).elim (fun z => nomatch z) id
  have fr1 : ∀ x ∈ a1, H x = none := fun x hx => (n1 x hx).elim (fun z => nomatch z) id
  refine ⟨fun x => P1 x ∨ P2 x, a1 ++ a2, ⟨g1.same.trans e2, fun x h => .inl (g1.le x h), fun x h => ?_⟩, .cons (r1.mono e2 fun _ h => .inl h) (r2.mono (.refl _) fun _ h => .inr h), ⟨?_, fun x hx => ?_⟩, fun x hx => ?_⟩
  · rcases h with h | h
    · rcases g1.new x h with z | z | ⟨z, o, q⟩
      · exact .inl z
      · cases z
      · exact .inr (.inr ⟨z, o, e2 _ _ q⟩)
    · rcases g2.new x h with z | z | ⟨z, o, q⟩
      · exact .inl z
      · cases z
      · exact .inr (.inr ⟨g1.same.free z, o, q⟩)
  · exact List.nodup_append.mpr ⟨o1.nd, o2.nd, fun x hx y hy e => by subst e; exact al1 x hx (fr2 x hy)⟩
  · rcases List.mem_append.mp hx with hx | hx
    · rintro (h | h)
      · exact o1.np x hx h
      · rcases g2.new x h with z | z | ⟨z, _⟩
        · exact o1.np x hx (g1.le x z)
        · cases z
        · exact al1 x hx z
    · rintro (h | h)
      · rcases g1.new x h with z | z | ⟨z, o, q⟩
        · exact o2.np x hx (g2.le x z)
        · cases z
        · rw [fr2 x hx] at q; cases q
      · exact o2.np x hx h
  · rcases List.mem_append.mp hx with hx | hx
    · exact .inr (fr1 x hx)
    · exact .inr (g1.same.free (fr2 x hx))
/-- from the things that were made to what is made of them -/
theorem OutL.comb {P1 : Addr → Prop} {a1 : List Addr} (g : Grow P P1 [] H H1) (f : ∀ x ∈ a1, H x = none) (th : ∀ x ∈ a1, ∃ o, H1 x = some o) (b : Out K w P1 a1 H1 H2 r v) : Out K w P [] H H2 r v := by
  obtain ⟨P2, a2, g2, r2, o2, n2⟩ := b
  refine ⟨P2, a2, ⟨g.same.trans g2.same, fun x h => g2.le x (g.le x h), fun x h => ?_⟩, r2, o2, fun x hx => .inr ?_⟩
  · rcases g2.new x h with z | z | ⟨z, o, q⟩
    · rcases g.new x z with z | z | ⟨z, o, q⟩
      · exact .inl z
      · cases z
      · exact .inr (.inr ⟨z, o, g2.same _ _ q⟩)
    · obtain ⟨o, ho⟩ := th x z
      exact .inr (.inr ⟨f x z, o, g2.same _ _ ho⟩)
    · exact .inr (.inr ⟨g.same.free z, o, q⟩)
  · rcases n2 x hx with z | z
    · exact f x z
    · exact g.same.free z
end

/-- the letters of a context -/
structure Lt where
  K : PySem.W.Frag
  w : World
  mg : Str → Option Value
  W : WX
abbrev lt (X : Cx) (W : WX) : Lt := ⟨X.K, X.w, X.mg, W⟩
/-- an error flies -/
def Fly (L : Lt) (c : Str) (n : Int) (σ : St) (H : Hp) : Prop := ∀ cls d H', Same H H' → XRep L.mg H' cls d c n → L.W cls d σ H'
def tE (L : Lt) (rd : List Nat) (f : Ev) : TE := fun σ H Q => ∃ ρ P, View L.K L.w P H rd ρ σ ∧ match f ρ with
  | .val r => ∀ v H', Out L.K L.w P [] H H' r v → Q v H'
  | .exc c n => Fly L c n σ H
  | .stuck => False
def tAr (L : Lt) (rd : List Nat) (f : Lv) : TA := fun σ H Q => ∃ ρ P, View L.K L.w P H rd ρ σ ∧ match f ρ with
  | .vals rs => ∀ vs H', OutL L.K L.w P [] H H' rs vs → Q vs H'
  | .exc c n => Fly L c n σ H
  | .stuck => False
def tT (L : Lt) (rd : List Nat) (f : Ev) : TT := fun σ H Q => ∃ ρ P, View L.K L.w P H rd ρ σ ∧ match f ρ with
  | .val (.bl b) => ∀ H', Same H H' → Q b H'
  | .val _ => False
  | .exc c n => Fly L c n σ H
  | .stuck => False
theorem Fly.same {L : Lt} {c : Str} {n : Int} {σ : St} {H H' : Hp} (h : Fly L c n σ H) (e : Same H H') : Fly L c n σ H' := fun cls d H2 e2 x => h cls d H2 (e.trans e2) x
/-- what a rule wants of its context -/
structure Dx (X : Cx) (W : WX) (k : Nat) : Prop where
  tk : Takes X W
  calm : X.calm = true
  nd : X.N.Nodup
  gd : X.A.guards = some []
  rm : Room k X.A
abbrev DE (X : Cx) (W : WX) (e : Expr) (rd : List Nat) (f : Ev) : Prop := PE X e (tE (lt X W) rd f)
abbrev DA (X : Cx) (W : WX) (es : List Expr) (rd : List Nat) (f : Lv) : Prop := PA X es (tAr (lt X W) rd f)
abbrev DT (X : Cx) (W : WX) (e : Expr) (rd : List Nat) (f : Ev) : Prop := PT X e (tT (lt X W) rd f)

theorem PEi {X : Cx} {e : Expr} {t t' : TE} (h : PE X e t) (i : ∀ σ H Q, t' σ H Q → t σ H Q) : PE X e t' := ⟨fun pins s σ H Q I q => h.run pins s σ H Q I (i σ H Q q)⟩
theorem PTi {X : Cx} {e : Expr} {t t' : TT} (h : PT X e t) (i : ∀ σ H Q, t' σ H Q → t σ H Q) : PT X e t' := ⟨fun pins s σ H Q I q => h.run pins s σ H Q I (i σ H Q q)⟩
theorem PWi {X : Cx} {e : Expr} {t t' : TT} (h : PW X e t) (i : ∀ σ H Q, t' σ H Q → t σ H Q) : PW X e t' := ⟨fun wh pins s σ H Q I q => h.run wh pins s σ H Q I (i σ H Q q)⟩
theorem PAi {X : Cx} {e : List Expr} {t t' : TA} (h : PA X e t) (i : ∀ σ H Q, t' σ H Q → t σ H Q) : PA X e t' := ⟨fun pos pins s σ H Q I q => h.run pos pins s σ H Q I (i σ H Q q)⟩

def eC (d : D) : Ev := fun _ => .val d
/-- a name, read: what it holds is another's too from now on -/
def eV (i : Nat) : Ev := fun ρ => match ρ[i]? with
  | some (some d) => .val d.fz
  | _ => .stuck
def lN : Lv := fun _ => .vals []
def lC (f : Ev) (l : Lv) : Lv := fun ρ => match f ρ with
  | .val d => match l ρ with
    | .vals ds => .vals (d :: ds)
    | .exc c n => .exc c n
    | .stuck => .stuck
  | .exc c n => .exc c n
  | .stuck => .stuck
/-- g of the arguments -/
def eA (g : List D → ER) (l : Lv) : Ev := fun ρ => match l ρ with
  | .vals ds => g ds
  | .exc c n => .exc c n
  | .stuck => .stuck
/-- a def's call: what is passed in is another's too -/
def eF (F : List D → ER) (l : Lv) : Ev := eA (fun ds => F (fzs ds)) l
def eIf (t a b : Ev) : Ev := fun ρ => match t ρ with
  | .val (.bl c) => if c = true then a ρ else b ρ
  | .exc c n => .exc c n
  | _ => .stuck
def eAnd (a b : Ev) : Ev := fun ρ => match a ρ with
  | .val (.bl c) => if c = true then b ρ else .val (.bl false)
  | .exc c n => .exc c n
  | _ => .stuck
def eOr (a b : Ev) : Ev := fun ρ => match a ρ with
  | .val (.bl c) => if c = true then .val (.bl true) else b ρ
  | .exc c n => .exc c n
  | _ => .stuck
def eNot (a : Ev) : Ev := fun ρ => match a ρ with
  | .val (.bl c) => .val (.bl (!c))
  | .exc c n => .exc c n
  | _ => .stuck

section
variable {X : Cx} {W : WX} {a b c e : Expr} {es : List Expr} {pos : Pos} {f f1 f2 f3 : Ev} {l : Lv} {r1 r2 r3 rd : List Nat}

theorem Grow.fz {P P' : Addr → Prop} {as : List Addr} {H H' : Hp} (g : Grow P P' as H H') (z : Fz P H) (th : ∀ a ∈ as, ∃ o, H a = some o) : Fz P' H' := fun a q => by
  rcases g.new a q with q | q | ⟨_, q⟩
  · obtain ⟨o, h⟩ := z a q; exact ⟨o, g.same _ _ h⟩
  · obtain ⟨o, h⟩ := th a q; exact ⟨o, g.same _ _ h⟩
  · exact q
/-- a constant -/
theorem de_c {d : D} {v : V} (h : PE X e (tC v)) (r : ∀ P H, Rep X.K X.w P H d v []) : DE X W e [] (eC d) :=
  PEi h fun σ H Q ⟨ρ, P, _, q⟩ => q v H (.plain (.refl _) (r P H))
theorem de_int {i j pos} : DE X W (.Constant (.int i) j pos) [] (eC (.int i)) := de_c pe_int fun _ _ => .int i
theorem de_bl {b j pos} : DE X W (.Constant (.bool b) j pos) [] (eC (.bl b)) := de_c pe_bl fun _ _ => .bl b
theorem de_non {j pos} : DE X W (.Constant .none j pos) [] (eC .non) := de_c pe_non fun _ _ => .non
theorem de_str {x j pos} : DE X W (.Constant (.str x) j pos) [] (eC (.str x)) := de_c pe_str fun _ _ => .str x
/-- a name of the def -/
theorem de_v {i : Nat} (h : PE X e (tVar i)) : DE X W e [i] (eV i) := PEi h fun σ H Q ⟨ρ, P, vw, q⟩ => by
  unfold eV at q
  split at q
  · rename_i r hr
    split at hr
    · rename_i d hd
      cases hr
      obtain ⟨v, hv, rv⟩ := vw.get i List.mem_cons_self d hd
      exact ⟨v, hv, q v H (.plain (.refl _) rv)⟩
    · cases hr
  · rename_i hr
    split at hr <;> cases hr
  · exact q.elim

theorem da_nil : DA X W [] [] lN := PAi pa_nil fun σ H Q ⟨ρ, P, _, q⟩ => q [] H .nil
theorem tcons_of {L : Lt} {σ : St} {H : Hp} {Q : List V → Hp → Prop} (h : tAr L (r1 ++ r2) (lC f l) σ H Q) : tCons (tE L r1 f) (tAr L r2 l) σ H Q := by
  obtain ⟨ρ, P, vw, q⟩ := h
  refine ⟨ρ, P, vw.left, ?_⟩
  unfold lC at q
  cases hf : f ρ with
  | val d =>
    intro v H1 o1
    refine ⟨ρ, P, (vw.right).same o1.same, ?_⟩
    rw [hf] at q
    cases hl : l ρ with
    | vals ds =>
      intro vs H2 o2
      rw [hl] at q
      exact q _ _ (o1.cons o2)
    | exc c n => rw [hl] at q; exact q.same o1.same
    | stuck => rw [hl] at q; exact q
  | exc c n => rw [hf] at q; exact q
  | stuck => rw [hf] at q; exact q
theorem da_cons (ha : DE X W e r1 f) (hr : DA X W es r2 l) (hs : starEach (e :: es) X.env = (false, eval e X.env) :: starEach es X.env := by rfl) : DA X W (e :: es) (r1 ++ r2) (lC f l) :=
  PAi (pa_cons ha hr hs) fun σ H Q h => tcons_of h

/-- a rule on values: g of the things ds -/
def rD (K : PySem.W.Frag) (w : World) (g : List D → ER) : List V → Hp → VK → Prop := fun vs H Q => ∃ P as ds r, Fz P H ∧ Reps K w P H ds vs as ∧ Own P as ∧ g ds = .val r ∧ ∀ v H', Out K w P as H H' r v → Q v H'
/-- g does not raise -/
def NoX (g : List D → ER) : Prop := ∀ ds c n, g ds ≠ .exc c n
theorem tA_of {L : Lt} {g : List D → ER} (ng : NoX g) {σ : St} {H : Hp} {Q : VK} (h : tE L rd (eA g l) σ H Q) : tAr L rd l σ H fun vs H1 => rD L.K L.w g vs H1 Q := by
  obtain ⟨ρ, P, vw, q⟩ := h
  refine ⟨ρ, P, vw, ?_⟩
  unfold eA at q
  cases hl : l ρ with
  | vals ds =>
    rw [hl] at q
    intro vs H1 o1
    obtain ⟨P1, a1, g1, r1, w1, n1⟩ := o1
    cases hg : g ds with
    | val r =>
      simp only [hg] at q
      exact ⟨P1, a1, ds, r, g1.fz vw.fz (fun _ z => nomatch z), r1, w1, hg, fun v H' o => q v H' (OutL.comb g1 (fun x hx => (n1 x hx).elim (fun z => nomatch z) id) (fun x hx => (r1.there x hx).some) o)⟩
    | exc c n => exact absurd hg (ng ds c n)
    | stuck => simp only [hg] at q
  | exc c n => rw [hl] at q; exact q
  | stuck => rw [hl] at q; exact q
/-- two operands in a row -/
theorem seq2 {L : Lt} {σ : St} {H : Hp} {R : V → V → Hp → Prop} (h : tAr L (r1 ++ (r2 ++ [])) (lC f1 (lC f2 lN)) σ H fun vs H' => ∃ x y, vs = [x, y] ∧ R x y H') :
    tE L r1 f1 σ H fun x H1 => tE L r2 f2 σ H1 fun y H2 => R x y H2 := by
  have h1 := tcons_of h
  obtain ⟨ρ, P, vw, q⟩ := h1
  refine ⟨ρ, P, vw, ?_⟩
  split at q
  · intro v H1 o1
    have h2 := tcons_of (q v H1 o1)
    obtain ⟨ρ2, P2, vw2, q2⟩ := h2
    refine ⟨ρ2, P2, vw2, ?_⟩
    split at q2
    · intro v2 H2 o2
      obtain ⟨ρ3, P3, vw3, q3⟩ := q2 v2 H2 o2
      obtain ⟨x, y, e, r⟩ := q3 [] H2 .nil
      cases e
      exact r
    · exact q2
    · exact q2
  · exact q
  · exact q
end
end DL

set_option Elab.async false
set_option linter.all false
set_option maxRecDepth 100000
namespace DL
open PySem PySem.Spec L2
open PyProof.Rows hiding St
section
variable {X : Cx} {W : WX} {a b c e : Expr} {es : List Expr} {pos : Pos} {f f1 f2 f3 : Ev} {l : Lv} {r1 r2 r3 rd : List Nat}

/-- two operands, an operation on values -/
theorem seqD {L : Lt} {g : List D → ER} (ng : NoX g) {σ : St} {H : Hp} {Q : VK} (h : tE L (r1 ++ (r2 ++ [])) (eA g (lC f1 (lC f2 lN))) σ H Q) :
    tE L r1 f1 σ H fun x H1 => tE L r2 f2 σ H1 fun y H2 => rD L.K L.w g [x, y] H2 Q := seq2 (by
    have := tA_of ng h
    obtain ⟨ρ, P, vw, q⟩ := this
    refine ⟨ρ, P, vw, ?_⟩
    split at q
    · rename_i rs hrs
      intro vs H' o
      have q' := q vs H' o
      obtain ⟨P1, a1, ds, r, fz1, r1, w1, hg, k⟩ := q'
      have : ∃ x y, vs = [x, y] := by
        obtain ⟨_, _, _, rr, _⟩ := o
        have : ∃ d1 d2, rs = [d1, d2] := by
          unfold lC lN at hrs
          split at hrs
          · split at hrs
            · rename_i hq
              split at hq
              · cases hq; cases hrs; exact ⟨_, _, rfl⟩
              · cases hq
              · cases hq
            · cases hrs
            · cases hrs
          · cases hrs
          · cases hrs
        obtain ⟨d1, d2, rfl⟩ := this
        cases rr with
        | cons p1 p2 =>
          cases p2 with
          | cons p3 p4 =>
            cases p4
            exact ⟨_, _, rfl⟩
      obtain ⟨x, y, rfl⟩ := this
      exact ⟨x, y, rfl, P1, a1, ds, r, fz1, r1, w1, hg, k⟩
    · exact q
    · exact q)
/-- a rule for a two-place operation -/
abbrev Op2 (X : Cx) (f : Value → Value → Sem Value) (g : List D → ER) : Prop := OpR X f fun x y H Q => rD X.K X.w g [x, y] H Q
abbrev Op1 (X : Cx) (f : Value → Sem Value) (g : List D → ER) : Prop := UnR X f fun x H Q => rD X.K X.w g [x] H Q
abbrev CallD (X : Cx) (f : Value) (g : List D → ER) : Prop := CallR X f (rD X.K X.w g)
theorem de_op2 {op : Operator} {g : List D → ER} (ho : Op2 X (binaryOp op) g) (ng : NoX g) (ha : DE X W a r1 f1) (hb : DE X W b r2 f2) :
    DE X W (.BinOp a op b pos) (r1 ++ (r2 ++ [])) (eA g (lC f1 (lC f2 lN))) := PEi (pe_op ho ha hb) fun σ H Q h => seqD ng h
theorem de_cmp {op : CmpOp} {g : List D → ER} (ho : Op2 X (compareOp op) g) (ng : NoX g) (ha : DE X W a r1 f1) (hb : DE X W b r2 f2) (hm : behindInMarks op b = false) :
    DE X W (.Compare a [op] [b] pos) (r1 ++ (r2 ++ [])) (eA g (lC f1 (lC f2 lN))) := PEi (pe_cmpR ho ha hb hm) fun σ H Q h => seqD ng h
theorem seq1 {L : Lt} {g : List D → ER} (ng : NoX g) {σ : St} {H : Hp} {Q : VK} (h : tE L (r1 ++ []) (eA g (lC f1 lN)) σ H Q) : tE L r1 f1 σ H fun x H1 => rD L.K L.w g [x] H1 Q := by
  obtain ⟨ρ, P, vw, q⟩ := tcons_of (tA_of ng h)
  refine ⟨ρ, P, vw, ?_⟩
  split at q
  · intro v H1 o1
    obtain ⟨ρ2, P2, vw2, q2⟩ := q v H1 o1
    exact q2 [] H1 .nil
  · exact q
  · exact q
theorem de_op1 {op : UnaryOp} {g : List D → ER} (ho : Op1 X (unaryOp op) g) (ng : NoX g) (ha : DE X W a r1 f1) : DE X W (.UnaryOp op a pos) (r1 ++ []) (eA g (lC f1 lN)) :=
  PEi (pe_un ho ha) fun σ H Q h => seq1 ng h

/-- a value that is True or False -/
theorem bl_of {L : Lt} {σ : St} {H : Hp} {Q : Bool → Hp → Prop} (h : tT L rd f σ H Q) : tE L rd f σ H fun x H1 => ∃ c, x = .bl c ∧ Q c H1 := by
  obtain ⟨ρ, P, vw, q⟩ := h
  refine ⟨ρ, P, vw, ?_⟩
  cases hf : f ρ with
  | val d =>
    rw [hf] at q
    cases d with
    | bl b =>
      intro v H' o
      obtain ⟨_, _, _, r, _⟩ := id o
      cases r
      exact ⟨b, rfl, q H' o.same⟩
    | _ => exact q.elim
  | exc c n => rw [hf] at q; exact q
  | stuck => rw [hf] at q; exact q
theorem of_bl {L : Lt} {σ : St} {H : Hp} {Q : VK} (hb : ∀ ρ d, f ρ = .val d → ∃ b, d = .bl b) (h : tE L rd f σ H Q) : tT L rd f σ H fun c H1 => Q (.bl c) H1 := by
  obtain ⟨ρ, P, vw, q⟩ := h
  refine ⟨ρ, P, vw, ?_⟩
  cases hf : f ρ with
  | val d =>
    obtain ⟨b, rfl⟩ := hb ρ d hf
    rw [hf] at q
    intro H' e
    exact q _ _ (.plain e (.bl b))
  | exc c n => rw [hf] at q; exact q
  | stuck => rw [hf] at q; exact q
/-- a test whose value is a bool -/
theorem dt_val (h : DE X W e rd f) (he : ∀ whole, isTrue e X.env whole = (do let v ← whole; standAt e.pos; holding [v] (truthy v)) := by intro _; rfl) : DT X W e rd f :=
  PTi (pt_val h he) fun σ H Q q => bl_of q
theorem tTest_of {t : TE} {f : Ev} {L : Lt} {σ : St} {H : Hp} {Q : Bool → Hp → Prop} (i : ∀ σ H Q, tE L rd f σ H Q → t σ H Q) (h : tT L rd f σ H Q) : tTest t σ H Q := i _ _ _ (bl_of h)
theorem dt_cmp {op : CmpOp} {g : List D → ER} (ho : Op2 X (compareOp op) g) (ng : NoX g) (ha : DE X W a r1 f1) (hb : DE X W b r2 f2) (hm : behindInMarks op b = false) :
    DT X W (.Compare a [op] [b] pos) (r1 ++ (r2 ++ [])) (eA g (lC f1 (lC f2 lN))) := PTi (pt_cmpR ho ha hb hm) fun σ H Q h => tTest_of (fun σ H Q h => seqD ng h) h
/-- and, or, not, as tests -/
theorem and_of {L : Lt} {σ : St} {H : Hp} {Q : Bool → Hp → Prop} (h : tT L (r1 ++ r2) (eAnd f1 f2) σ H Q) : tAnd (tT L r1 f1) (tT L r2 f2) σ H Q := by
  obtain ⟨ρ, P, vw, q⟩ := h
  refine ⟨ρ, P, vw.left, ?_⟩
  unfold eAnd at q
  cases h1 : f1 ρ with
  | val d =>
    rw [h1] at q
    cases d with
    | bl b =>
      intro H1 e1
      cases b with
      | true =>
        simp only [if_true] at q ⊢
        refine ⟨ρ, P, vw.right.same e1, ?_⟩
        cases h2 : f2 ρ with
        | val d =>
          simp only [h2] at q
          cases d with
          | bl c => exact fun H' e => q H' (e1.trans e)
          | _ => exact q.elim
        | exc c n => simp only [h2] at q; exact q.same e1
        | stuck => simp only [h2] at q
      | false => simp only [Bool.false_eq_true, if_false] at q ⊢; exact q H1 e1
    | _ => exact q.elim
  | exc c n => rw [h1] at q; exact q
  | stuck => rw [h1] at q; exact q
theorem or_of {L : Lt} {σ : St} {H : Hp} {Q : Bool → Hp → Prop} (h : tT L (r1 ++ r2) (eOr f1 f2) σ H Q) : tOr (tT L r1 f1) (tT L r2 f2) σ H Q := by
  obtain ⟨ρ, P, vw, q⟩ := h
  refine ⟨ρ, P, vw.left, ?_⟩
  unfold eOr at q
  cases h1 : f1 ρ with
  | val d =>
    rw [h1] at q
    cases d with
    | bl b =>
      intro H1 e1
      cases b with
      | false =>
        simp only [Bool.false_eq_true, if_false] at q ⊢
        refine ⟨ρ, P, vw.right.same e1, ?_⟩
        cases h2 : f2 ρ with
        | val d =>
          simp only [h2] at q
          cases d with
          | bl c => exact fun H' e => q H' (e1.trans e)
          | _ => exact q.elim
        | exc c n => simp only [h2] at q; exact q.same e1
        | stuck => simp only [h2] at q
      | true => simp only [if_true] at q ⊢; exact q H1 e1
    | _ => exact q.elim
  | exc c n => rw [h1] at q; exact q
  | stuck => rw [h1] at q; exact q
abbrev DW (X : Cx) (W : WX) (e : Expr) (rd : List Nat) (f : Ev) : Prop := PW X e (tT (lt X W) rd f)
theorem dw_and1 (ha : DT X W a r1 f1) : DW X W (.BoolOp .And [a] pos) r1 f1 := pw_and1 ha
theorem dw_or1 (ha : DT X W a r1 f1) : DW X W (.BoolOp .Or [a] pos) r1 f1 := pw_or1 ha
theorem dw_and (ha : DT X W a r1 f1) (hb : DW X W (.BoolOp .And (b :: es) pos) r2 f2) : DW X W (.BoolOp .And (a :: b :: es) pos) (r1 ++ r2) (eAnd f1 f2) := PWi (pw_and ha hb) fun σ H Q h => and_of h
theorem dw_or (ha : DT X W a r1 f1) (hb : DW X W (.BoolOp .Or (b :: es) pos) r2 f2) : DW X W (.BoolOp .Or (a :: b :: es) pos) (r1 ++ r2) (eOr f1 f2) := PWi (pw_or ha hb) fun σ H Q h => or_of h
theorem not_of' {L : Lt} {σ : St} {H : Hp} {Q : Bool → Hp → Prop} (h : tT L r1 (eNot f1) σ H Q) : tT L r1 f1 σ H fun c H1 => Q (!c) H1 := by
  obtain ⟨ρ, P, vw, q⟩ := h
  refine ⟨ρ, P, vw, ?_⟩
  unfold eNot at q
  cases h1 : f1 ρ with
  | val d =>
    rw [h1] at q
    cases d with
    | bl b => exact q
    | _ => exact q.elim
  | exc c n => rw [h1] at q; exact q
  | stuck => rw [h1] at q; exact q
theorem dt_not (ha : DT X W a r1 f1) : DT X W (.UnaryOp .Not a pos) r1 (eNot f1) := PTi (pt_not ha) fun σ H Q h => not_of' h
/-- .. as values -/
theorem eAnd_bl : ∀ ρ d, (eAnd f1 f2) ρ = .val d → (∀ ρ d, f2 ρ = .val d → ∃ b, d = .bl b) → ∃ b, d = .bl b := fun ρ d h k => by
  unfold eAnd at h
  split at h
  · split at h
    · exact k ρ d h
    · cases h; exact ⟨_, rfl⟩
  · cases h
  · cases h
theorem andV_of {L : Lt} {σ : St} {H : Hp} {Q : VK} (h : tE L (r1 ++ r2) (eAnd f1 f2) σ H Q) : tAndV (tE L r1 f1) (tE L r2 f2) σ H Q := by
  obtain ⟨ρ, P, vw, q⟩ := h
  refine ⟨ρ, P, vw.left, ?_⟩
  unfold eAnd at q
  cases h1 : f1 ρ with
  | val d =>
    rw [h1] at q
    cases d with
    | bl b =>
      intro v H1 o1
      have e1 := o1.same
      obtain ⟨_, _, _, r, _⟩ := o1
      cases r
      refine ⟨b, rfl, ?_⟩
      cases b with
      | true =>
        simp only [if_true] at q ⊢
        refine ⟨ρ, P, vw.right.same e1, ?_⟩
        cases h2 : f2 ρ with
        | val d =>
          simp only [h2] at q
          exact fun v H' o => q v H' (OutL.comb (a1 := []) (.of_same e1) (fun _ z => nomatch z) (fun _ z => nomatch z) o)
        | exc c n => simp only [h2] at q; exact q.same e1
        | stuck => simp only [h2] at q
      | false => simp only [Bool.false_eq_true, if_false] at q ⊢; exact q _ H1 (.plain e1 (.bl false))
    | _ => exact q.elim
  | exc c n => rw [h1] at q; exact q
  | stuck => rw [h1] at q; exact q
theorem orV_of {L : Lt} {σ : St} {H : Hp} {Q : VK} (h : tE L (r1 ++ r2) (eOr f1 f2) σ H Q) : tOrV (tE L r1 f1) (tE L r2 f2) σ H Q := by
  obtain ⟨ρ, P, vw, q⟩ := h
  refine ⟨ρ, P, vw.left, ?_⟩
  unfold eOr at q
  cases h1 : f1 ρ with
  | val d =>
    rw [h1] at q
    cases d with
    | bl b =>
      intro v H1 o1
      have e1 := o1.same
      obtain ⟨_, _, _, r, _⟩ := o1
      cases r
      refine ⟨b, rfl, ?_⟩
      cases b with
      | false =>
        simp only [Bool.false_eq_true, if_false] at q ⊢
        refine ⟨ρ, P, vw.right.same e1, ?_⟩
        cases h2 : f2 ρ with
        | val d =>
          simp only [h2] at q
          exact fun v H' o => q v H' (OutL.comb (a1 := []) (.of_same e1) (fun _ z => nomatch z) (fun _ z => nomatch z) o)
        | exc c n => simp only [h2] at q; exact q.same e1
        | stuck => simp only [h2] at q
      | true => simp only [if_true] at q ⊢; exact q _ H1 (.plain e1 (.bl true))
    | _ => exact q.elim
  | exc c n => rw [h1] at q; exact q
  | stuck => rw [h1] at q; exact q
theorem de_one {op : BoolOp} (ha : DE X W a r1 f1) : DE X W (.BoolOp op [a] pos) r1 f1 := pe_one ha
theorem de_and (ha : DE X W a r1 f1) (hb : DE X W (.BoolOp .And (b :: es) pos) r2 f2) : DE X W (.BoolOp .And (a :: b :: es) pos) (r1 ++ r2) (eAnd f1 f2) := PEi (pe_and ha hb) fun σ H Q h => andV_of h
theorem de_or (ha : DE X W a r1 f1) (hb : DE X W (.BoolOp .Or (b :: es) pos) r2 f2) : DE X W (.BoolOp .Or (a :: b :: es) pos) (r1 ++ r2) (eOr f1 f2) := PEi (pe_or ha hb) fun σ H Q h => orV_of h
theorem de_not (ha : DE X W a r1 f1) : DE X W (.UnaryOp .Not a pos) r1 (eNot f1) := PEi (pe_not ha) fun σ H Q h => by
  obtain ⟨ρ, P, vw, q⟩ := h
  refine ⟨ρ, P, vw, ?_⟩
  unfold eNot at q
  cases h1 : f1 ρ with
  | val d =>
    rw [h1] at q
    cases d with
    | bl b =>
      intro v H1 o1
      have e1 := o1.same
      obtain ⟨_, _, _, r, _⟩ := o1
      cases r
      exact ⟨b, rfl, q _ H1 (.plain e1 (.bl _))⟩
    | _ => exact q.elim
  | exc c n => rw [h1] at q; exact q
  | stuck => rw [h1] at q; exact q
/-- a if t else b -/
theorem de_if (ht : DT X W c r1 f1) (ha : DE X W a r2 f2) (hb : DE X W b r3 f3) : DE X W (.IfExp c a b pos) (r1 ++ (r2 ++ r3)) (eIf f1 f2 f3) :=
  PEi (pe_ifExp ht ha hb) fun σ H Q h => by
    obtain ⟨ρ, P, vw, q⟩ := h
    refine ⟨ρ, P, vw.left, ?_⟩
    unfold eIf at q
    cases h1 : f1 ρ with
    | val d =>
      rw [h1] at q
      cases d with
      | bl b =>
        intro H1 e1
        have go : ∀ (rr : List Nat) (ff : Ev), View X.K X.w P H rr ρ σ → (match ff ρ with | .val r => ∀ v H', Out X.K X.w P [] H H' r v → Q v H' | .exc c n => Fly (lt X W) c n σ H | .stuck => False) → tE (lt X W) rr ff σ H1 Q := fun rr ff vv qq => by
          refine ⟨ρ, P, vv.same e1, ?_⟩
          cases h2 : ff ρ with
          | val d =>
            rw [h2] at qq
            exact fun v H' o => qq v H' (OutL.comb (a1 := []) (.of_same e1) (fun _ z => nomatch z) (fun _ z => nomatch z) o)
          | exc c n => rw [h2] at qq; exact qq.same e1
          | stuck => rw [h2] at qq; exact qq
        cases b with
        | true => simp only [if_true] at q ⊢; exact go r2 f2 vw.right.left q
        | false => simp only [Bool.false_eq_true, if_false] at q ⊢; exact go r3 f3 vw.right.right q
      | _ => exact q.elim
    | exc c n => rw [h1] at q; exact q
    | stuck => rw [h1] at q; exact q

def gTup (ds : List D) : ER := if ds.length ≤ sizeLine then .val (.tup ds) else .stuck
def gLst (ds : List D) : ER := if ds.length ≤ sizeLine then .val (.lst true ds) else .stuck
theorem NoX.tup : NoX gTup := fun ds c n h => by unfold gTup at h; split at h <;> cases h
theorem NoX.lst : NoX gLst := fun ds c n h => by unfold gLst at h; split at h <;> cases h
theorem Reps.length {K : PySem.W.Frag} {w : World} {P : Addr → Prop} {H : Hp} : ∀ {ds : List D} {vs : List V} {as : List Addr}, Reps K w P H ds vs as → ds.length = vs.length
  | _, _, _, .nil => rfl
  | _, _, _, .cons _ r => by simp [r.length]
theorem same_new {H : Hp} {p : Addr} {o : HO} (hp : H p = none) : Same H (upd H p o) := fun b u h => by rw [upd_ne (ne_of_none h hp)]; exact h
theorem de_tup {x1} (h : DA X W es rd l) : DE X W (.Tuple es x1 pos) rd (eA gTup l) := PEi (pe_tup h) fun σ H Q q => by
  obtain ⟨ρ, P, vw, k⟩ := tA_of .tup q
  refine ⟨ρ, P, vw, ?_⟩
  split at k
  · intro vs H1 o
    obtain ⟨P1, as, ds, r, _, rr, ow, hg, z⟩ := k vs H1 o
    unfold gTup at hg
    split at hg
    · rename_i hz
      cases hg
      refine ⟨by rw [← rr.length]; exact hz, fun p hp => z _ _ ⟨P1, as, .of_same (same_new hp), .tup upd_same (rr.mono (same_new hp) fun _ z => z), ow, fun _ z => .inl z⟩⟩
    · cases hg
  · exact k
  · exact k
/-- a new list of these things -/
theorem Out.newL {K : PySem.W.Frag} {w : World} {P : Addr → Prop} {H : Hp} {as : List Addr} {ds : List D} {vs : List V} {p : Addr} (hp : H p = none) (hP : ¬ P p) (rr : Reps K w P H ds vs as) (ow : Own P as) :
    Out K w P as H (upd H p (.lst vs)) (.lst true ds) (.ref p) := by
  refine ⟨P, p :: as, .of_same (same_new hp), .lstO upd_same (rr.mono (same_new hp) fun _ z => z), ⟨List.nodup_cons.mpr ⟨fun z => ?_, ow.nd⟩, fun a z => ?_⟩, fun a z => ?_⟩
  · obtain ⟨o, h⟩ := (rr.there p z).some
    rw [hp] at h; cases h
  · rcases List.mem_cons.mp z with rfl | z
    · exact hP
    · exact ow.np a z
  · rcases List.mem_cons.mp z with rfl | z
    · exact .inr hp
    · exact .inl z
theorem Fz.new {P : Addr → Prop} {H : Hp} {p : Addr} (z : Fz P H) (hp : H p = none) : ¬ P p := fun q => by
  obtain ⟨o, h⟩ := z p q
  rw [hp] at h; cases h
theorem de_lst (h : DA X W es rd l) : DE X W (.List es pos) rd (eA gLst l) := PEi (pe_lst h) fun σ H Q q => by
  obtain ⟨ρ, P, vw, k⟩ := tA_of .lst q
  refine ⟨ρ, P, vw, ?_⟩
  split at k
  · intro vs H1 o
    obtain ⟨P1, as, ds, r, fz, rr, ow, hg, z⟩ := k vs H1 o
    unfold gLst at hg
    split at hg
    · rename_i hz
      cases hg
      exact ⟨by rw [← rr.length]; exact hz, fun p hp => z _ _ (Out.newL hp (fz.new hp) rr ow)⟩
    · cases hg
  · exact k
  · exact k

theorem de_callB {x : Str} {p : Pos} {id : String} {g : List D → ER} (hc : CallD X (.builtin id) g) (ng : NoX g) (hg : Gl X x) (hm : X.mg x = none) (hv : bootBuiltins x = some (.builtin id)) (ha : DA X W (e :: es) rd l) (hn : x ≠ "__name__" := by decide) (hdb : (x == ("__debug__" : Str)) = false := by decide)
    (he : starEach (e :: es) X.env = (false, eval e X.env) :: starEach es X.env := by rfl) (hpl : (backTo pos (starEach es X.env)).any (·.1) = false := by rfl) : DE X W (.Call (.Name x p) (e :: es) [] pos) rd (eA g l) :=
  PEi (pe_callB hc hg hm hv ha hn hdb he hpl) fun σ H Q q => tA_of ng q
theorem de_callTy {x : Str} {p : Pos} {T : String} {g : List D → ER} (hc : CallD X (.type T) g) (ng : NoX g) (hg : Gl X x) (hm : X.mg x = none) (hv : bootBuiltins x = some (.type T)) (ha : DA X W (e :: es) rd l) (hn : x ≠ "__name__" := by decide) (hdb : (x == ("__debug__" : Str)) = false := by decide)
    (he : starEach (e :: es) X.env = (false, eval e X.env) :: starEach es X.env := by rfl) (hpl : (backTo pos (starEach es X.env)).any (·.1) = false := by rfl) : DE X W (.Call (.Name x p) (e :: es) [] pos) rd (eA g l) :=
  PEi (pe_callTy hc hg hm hv ha hn hdb he hpl) fun σ H Q q => tA_of ng q

/-- a def's promise: F of the things that are passed in, frozen -/
def spD (K : PySem.W.Frag) (w : World) (mg : Str → Option Value) (F : List D → ER) : Sp := fun vs H Q E => ∃ P ds, Fz P H ∧ Reps K w P H ds vs [] ∧ match F ds with
  | .val r => ∀ v H', Out K w P [] H H' r v → Q v H'
  | .exc c n => ∀ cls d H', Same H H' → XRep mg H' cls d c n → E cls d H'
  | .stuck => False
/-- room, and nothing is being shown -/
structure RoomG (k : Nat) (A : Around) : Prop where
  rm : Room k A
  gd : A.guards = some []
/-- a def that keeps a promise (FnOk, with RoomG) -/
structure FnG (P : Program) (w : World) (K : PySem.W.Frag) (mg : Str → Option Value) (base : Heap) (k : Nat) (f : Addr) (fd : FuncData) (ps : List Str) (sp : Sp) : Prop where
  len : ∀ vs H Q E, sp vs H Q E → vs.length = ps.length
  run : ∀ (A : Around) (outer : List PySem.Env) (s : Shared) (H : Hp) (args : Args) (us : List Value) (vs : List V) (Q : VK) (E : XK), RoomG k A → Env0 P w K mg base A outer s H → BindsTo s fd args (ps.zip us) → Vals vs us → sp vs H Q E →
    codeAny (model P w) A (.call (.ref f) args) (CR (L2.CX P w) outer P w H s Q E) s
theorem run_fnG {pins : List (Addr × Obj)} {σ : St} {H : Hp} {s : Shared} {Q : VK} {us : List Value} {vs : List V} {k : Nat} {f : Addr} {fd : FuncData} {ps : List Str} {sp : Sp} {E : St → XK} (F : FnG X.prog X.w X.K X.mg X.base k f fd ps sp) (hr : RoomG k X.A) (hb : Binds X.K fd ps []) (hx : PassesAt (L2.CX X.prog X.w) X σ (E σ))
    (I : Inv X pins σ H s) (r : Vals vs us) (h : sp vs H Q (E σ)) : wpAny (model X.prog X.w) X.A (call (.ref f) us) (EP X pins σ Q) X.xe s := by
  have hl : us.length = ps.length := by rw [← r.length]; exact F.len _ _ _ _ h
  have b := hb s us I.kIn (by rw [List.append_nil]; exact hl)
  rw [List.append_nil] at b
  refine wpAny_call (codeAny_mono (F.run X.A X.stack s H ⟨us, []⟩ us vs Q (E σ) hr I.env0 b r h) fun r s' hq => ?_)
  cases r with
  | error e => exact hx pins H s e s' I hq
  | ok fl =>
    cases fl with
    | ret u => exact I.after hq
    | next => exact False.elim hq
    | brk => exact False.elim hq
    | cont => exact False.elim hq
theorem pe_callG {k : Nat} {f : Addr} {fd : FuncData} {ps : List Str} {sp : Sp} {E : St → XK} {x : Str} {p : Pos} {t : TA} (F : FnG X.prog X.w X.K X.mg X.base k f fd ps sp) (hr : RoomG k X.A) (hg : Gl X x) (hm : X.mg x = some (.ref f)) (hk : PySem.W.keepIn X.K (.ref f) = true) (hb : Binds X.K fd ps []) (hx : ∀ σ, PassesAt (L2.CX X.prog X.w) X σ (E σ))
    (ha : PA X (e :: es) t) (hdb : (x == ("__debug__" : Str)) = false := by decide) (he : starEach (e :: es) X.env = (false, eval e X.env) :: starEach es X.env := by rfl) (hpl : (backTo pos (starEach es X.env)).any (·.1) = false := by rfl) :
    PE X (.Call (.Name x p) (e :: es) [] pos) (tCallS sp E t) := by
  refine ⟨fun pins s σ H Q I h => ?_⟩
  refine wpAny_Call_Name_kw (ld_glob I hg hm ?_ hdb)
  refine PySem.W.callWith_K (h₀ := X.base) I.ok.mod.kin hk (thn (ha.run pos pins s σ H _ I h) fun us s1 ⟨vs, H1, I1, r, q⟩ => ⟨I1.kIn, ?_⟩) he hpl
  exact run_fnG F hr hb (hx σ) I1 r q
/-- f(e, ..), f a def of the text -/
theorem de_call {k : Nat} {f : Addr} {fd : FuncData} {ps : List Str} {F : List D → ER} {x : Str} {p : Pos} {kk : Nat} (dx : Dx X W kk) (G : FnG X.prog X.w X.K X.mg X.base k f fd ps (spD X.K X.w X.mg F)) (hkk : k ≤ kk) (hm : X.mg x = some (.ref f)) (hk : PySem.W.keepIn X.K (.ref f) = true) (hb : Binds X.K fd ps [])
    (hg : Gl X x) (ha : DA X W (e :: es) rd l) (hdb : (x == ("__debug__" : Str)) = false := by decide) (he : starEach (e :: es) X.env = (false, eval e X.env) :: starEach es X.env := by rfl) (hpl : (backTo pos (starEach es X.env)).any (·.1) = false := by rfl) :
    DE X W (.Call (.Name x p) (e :: es) [] pos) rd (eF F l) := by
  refine ⟨fun pins s σ H Q I h => ?_⟩
  refine wpAny_Call_Name_kw (ld_glob I hg hm ?_ hdb)
  refine PySem.W.callWith_K (h₀ := X.base) I.ok.mod.kin hk ?_ he hpl
  have hx : PassesAt (L2.CX X.prog X.w) X σ (WE W σ) := passAt dx.tk σ
  obtain ⟨ρ, P, vw, q⟩ := h
  unfold eF eA at q
  -- the arguments, then the call
  refine thn (ha.run pos pins s σ H (fun vs H1 => spD X.K X.w X.mg F vs H1 Q (WE W σ)) I ⟨ρ, P, vw, ?_⟩) fun us s1 ⟨vs, H1, I1, r, q⟩ => ⟨I1.kIn, run_fnG G ⟨dx.rm.mono hkk, dx.gd⟩ hb hx I1 r q⟩
  cases hl : l ρ with
  | vals ds =>
    rw [hl] at q
    intro vs H1 o1
    obtain ⟨P1, a1, g1, rr, ow, n1⟩ := id o1
    have th : ∀ a ∈ a1, ∃ o, H1 a = some o := fun a z => (rr.there a z).some
    have fz1 : Fz P1 H1 := g1.fz vw.fz (fun _ z => nomatch z)
    refine ⟨fun a => P1 a ∨ a ∈ a1, fzs ds, fun a z => ?_, rr.fz (fun _ z => .inl z) (fun _ z => .inr z), ?_⟩
    · rcases z with z | z
      · exact fz1 a z
      · exact th a z
    · cases hF : F (fzs ds) with
      | val r =>
        simp only [hF] at q
        rintro v H' ⟨P2, a2, g2, r2, o2, n2⟩
        refine q v H' (OutL.comb g1 (fun x hx => (n1 x hx).elim (fun z => nomatch z) id) th ⟨P2, a2, ⟨g2.same, fun a z => g2.le a (.inl z), fun a z => ?_⟩, r2, o2, fun a z => .inr ((n2 a z).elim (fun z => nomatch z) id)⟩)
        rcases g2.new a z with (z | z) | z | z
        · exact .inl z
        · exact .inr (.inl z)
        · cases z
        · exact .inr (.inr z)
      | exc c n =>
        simp only [hF] at q
        exact fun cls d H' e x => q cls d H' (g1.same.trans e) x
      | stuck => simp only [hF] at q
  | exc c n => rw [hl] at q; exact q
  | stuck => rw [hl] at q; exact q
end
end DL

set_option Elab.async false
set_option linter.all false
set_option maxRecDepth 100000
namespace DL
open PySem PySem.Spec L2
open PyProof.Rows hiding St

/-- a slot's thing is known to others from now on -/
def fzAt : Nat → Env → Env
  | _, [] => []
  | 0, x :: ρ => x.map D.fz :: ρ
  | i + 1, x :: ρ => x :: fzAt i ρ
def frz : List Nat → Env → Env
  | [], ρ => ρ
  | i :: rd, ρ => frz rd (fzAt i ρ)
theorem fzAt_length : ∀ (i : Nat) (ρ : Env), (fzAt i ρ).length = ρ.length
  | _, [] => by simp [fzAt]
  | 0, x :: ρ => by simp [fzAt]
  | i + 1, x :: ρ => by simp [fzAt, fzAt_length i ρ]
theorem frz_length : ∀ (rd : List Nat) (ρ : Env), (frz rd ρ).length = ρ.length
  | [], _ => rfl
  | i :: rd, ρ => by rw [frz, frz_length rd, fzAt_length]
theorem fzAt_get : ∀ (i : Nat) (ρ : Env), (fzAt i ρ)[i]? = (ρ[i]?).map (fun x => x.map D.fz)
  | i, [] => by simp [fzAt]
  | 0, x :: ρ => by simp [fzAt]
  | i + 1, x :: ρ => by simp [fzAt, fzAt_get i ρ]
theorem fzAt_ne : ∀ (i j : Nat) (ρ : Env), j ≠ i → (fzAt i ρ)[j]? = ρ[j]?
  | i, j, [], _ => by simp [fzAt]
  | 0, 0, x :: ρ, h => absurd rfl h
  | 0, j + 1, x :: ρ, _ => by simp [fzAt]
  | i + 1, 0, x :: ρ, _ => by simp [fzAt]
  | i + 1, j + 1, x :: ρ, h => by simp [fzAt, fzAt_ne i j ρ (by omega)]

section
variable (K : PySem.W.Frag) (w : World) (P : Addr → Prop) (H : Hp)
inductive EnvRep : Env → St → List Addr → Prop
  | nil : EnvRep [] [] []
  | no {ρ : Env} {σ : St} {x : Option V} {as : List Addr} : EnvRep ρ σ as → EnvRep (none :: ρ) (x :: σ) as
  | yes {ρ : Env} {σ : St} {d : D} {v : V} {as bs : List Addr} : Rep K w P H d v as → EnvRep ρ σ bs → EnvRep (some d :: ρ) (some v :: σ) (as ++ bs)
end
section
variable {K : PySem.W.Frag} {w : World} {P P' : Addr → Prop} {H H' : Hp}
theorem EnvRep.mono (e : Same H H') (p : ∀ a, P a → P' a) : ∀ {ρ : Env} {σ : St} {as : List Addr}, EnvRep K w P H ρ σ as → EnvRep K w P' H' ρ σ as
  | _, _, _, .nil => .nil
  | _, _, _, .no r => .no (r.mono e p)
  | _, _, _, .yes a r => .yes (a.mono e p) (r.mono e p)
theorem EnvRep.length : ∀ {ρ : Env} {σ : St} {as : List Addr}, EnvRep K w P H ρ σ as → ρ.length = σ.length
  | _, _, _, .nil => rfl
  | _, _, _, .no r => by simp [r.length]
  | _, _, _, .yes a r => by simp [r.length]
theorem EnvRep.there : ∀ {ρ : Env} {σ : St} {as : List Addr}, EnvRep K w P H ρ σ as → ∀ a ∈ as, Ob H a
  | _, _, _, .nil, a, z => nomatch z
  | _, _, _, .no r, a, z => r.there a z
  | _, _, _, .yes x r, a, z => (List.mem_append.mp z).elim (x.there a) (r.there a)
theorem EnvRep.upd {x : Addr} {o : HO} (W : Wr P H x) : ∀ {ρ : Env} {σ : St} {as : List Addr}, EnvRep K w P H ρ σ as → x ∉ as → EnvRep K w P (L2.upd H x o) ρ σ as
  | _, _, _, .nil, _ => .nil
  | _, _, _, .no r, q => .no (r.upd W q)
  | _, _, _, .yes a r, q => .yes (a.upd W fun z => q (List.mem_append_left _ z)) (r.upd W fun z => q (List.mem_append_right _ z))
/-- a slot is read -/
theorem EnvRep.get : ∀ {ρ : Env} {σ : St} {as : List Addr}, EnvRep K w P H ρ σ as → ∀ (i : Nat) (d : D), ρ[i]? = some (some d) → ∃ v bs, σ[i]? = some (some v) ∧ Rep K w P H d v bs ∧ ∀ a ∈ bs, a ∈ as
  | _, _, _, .nil, i, d, h => by simp at h
  | _, _, _, .no r, 0, d, h => by simp at h
  | _, _, _, .no r, i + 1, d, h => by
    obtain ⟨v, bs, a, b, c⟩ := r.get i d (by simpa using h)
    exact ⟨v, bs, by simpa using a, b, c⟩
  | _, _, _, .yes x r, 0, d, h => by
    simp at h
    subst h
    exact ⟨_, _, rfl, x, fun a z => List.mem_append_left _ z⟩
  | _, _, _, .yes x r, i + 1, d, h => by
    obtain ⟨v, bs, a, b, c⟩ := r.get i d (by simpa using h)
    exact ⟨v, bs, by simpa using a, b, fun a z => List.mem_append_right _ (c a z)⟩
/-- a slot is taken out: its thing, and the others -/
theorem EnvRep.take : ∀ {ρ : Env} {σ : St} {as : List Addr}, EnvRep K w P H ρ σ as → as.Nodup → ∀ (i : Nat) (d : D), ρ[i]? = some (some d) →
    ∃ v bs cs, σ[i]? = some (some v) ∧ Rep K w P H d v bs ∧ EnvRep K w P H (ρ.set i none) σ cs ∧ (bs ++ cs).Nodup ∧ ∀ a, a ∈ bs ++ cs ↔ a ∈ as
  | _, _, _, .nil, _, i, d, h => by simp at h
  | _, _, _, .no r, _, 0, d, h => by simp at h
  | _, _, _, .no r, n, i + 1, d, h => by
    obtain ⟨v, bs, cs, a, b, c, n', m⟩ := r.take n i d (by simpa using h)
    exact ⟨v, bs, cs, by simpa using a, b, .no c, n', m⟩
  | _, _, _, .yes (as := as1) (bs := bs1) x r, n, 0, d, h => by
    simp at h
    subst h
    exact ⟨_, as1, bs1, rfl, x, .no r, n, fun a => Iff.rfl⟩
  | _, _, _, .yes (as := as1) (bs := bs1) x r, n, i + 1, d, h => by
    obtain ⟨n1, n2, n3⟩ := List.nodup_append.mp n
    obtain ⟨v, bs, cs, a, b, c, n', m⟩ := r.take n2 i d (by simpa using h)
    obtain ⟨m1, m2, m3⟩ := List.nodup_append.mp n'
    refine ⟨v, bs, as1 ++ cs, by simpa using a, b, .yes x c, ?_, fun a => ?_⟩
    · refine List.nodup_append.mpr ⟨m1, List.nodup_append.mpr ⟨n1, m2, fun y hy z hz e => n3 y hy z ((m z).mp (List.mem_append_right _ hz)) e⟩, fun y hy z hz e => ?_⟩
      rcases List.mem_append.mp hz with hz | hz
      · exact n3 z hz y ((m y).mp (List.mem_append_left _ hy)) e.symm
      · exact m3 y hy z hz e
    · have := m a
      simp only [List.mem_append] at this ⊢
      constructor
      · rintro (q | q | q)
        · exact .inr (this.mp (.inl q))
        · exact .inl q
        · exact .inr (this.mp (.inr q))
      · rintro (q | q)
        · exact .inr (.inl q)
        · exact (this.mpr q).elim .inl (fun q => .inr (.inr q))
/-- a slot is dropped -/
theorem EnvRep.drop : ∀ {ρ : Env} {σ : St} {as : List Addr}, EnvRep K w P H ρ σ as → as.Nodup → ∀ (i : Nat), ∃ cs, EnvRep K w P H (ρ.set i none) σ cs ∧ cs.Nodup ∧ ∀ a ∈ cs, a ∈ as := fun {ρ σ as} r n i => by
  cases h : ρ[i]? with
  | none => exact ⟨as, by rw [List.set_eq_of_length_le (List.getElem?_eq_none_iff.mp h)]; exact r, n, fun _ z => z⟩
  | some x =>
    cases x with
    | none =>
      refine ⟨as, ?_, n, fun _ z => z⟩
      have hl : i < ρ.length := (List.getElem?_eq_some_iff.mp h).1
      have : ρ.set i none = ρ := by
        apply List.ext_getElem?
        intro j
        by_cases hj : i = j
        · subst hj; rw [List.getElem?_set_self hl, h]
        · rw [List.getElem?_set_ne hj]
      rw [this]; exact r
    | some d =>
      obtain ⟨v, bs, cs, _, _, c, m, e⟩ := r.take n i d h
      exact ⟨cs, c, (List.nodup_append.mp m).2.1, fun a z => (e a).mp (List.mem_append_right _ z)⟩
/-- a slot that is empty takes a thing -/
theorem EnvRep.put : ∀ {ρ : Env} {σ : St} {as : List Addr}, EnvRep K w P H ρ σ as → ∀ (i : Nat) (d : D) (v : V) (bs : List Addr), ρ[i]? = some none → Rep K w P H d v bs → (bs ++ as).Nodup →
    ∃ cs, EnvRep K w P H (ρ.set i (some d)) (σ.set i (some v)) cs ∧ cs.Nodup ∧ ∀ a ∈ cs, a ∈ bs ++ as
  | _, _, _, .nil, i, d, v, bs, h, _, _ => by simp at h
  | _, _, _, .no (as := as) r, 0, d, v, bs, h, x, n => ⟨bs ++ as, .yes x r, n, fun _ z => z⟩
  | _, _, _, .no r, i + 1, d, v, bs, h, x, n => by
    obtain ⟨cs, a, b, c⟩ := r.put i d v bs (by simpa using h) x n
    exact ⟨cs, .no a, b, c⟩
  | _, _, _, .yes y r, 0, d, v, bs, h, x, n => by simp at h
  | _, _, _, .yes (as := as1) (bs := bs1) y r, i + 1, d, v, bs, h, x, n => by
    obtain ⟨n1, n2, n3⟩ := List.nodup_append.mp n
    obtain ⟨n4, n5, n6⟩ := List.nodup_append.mp n2
    obtain ⟨cs, a, b, c⟩ := r.put i d v bs (by simpa using h) x (List.nodup_append.mpr ⟨n1, n5, fun p hp q hq => n3 p hp q (List.mem_append_right _ hq)⟩)
    refine ⟨as1 ++ cs, .yes y a, List.nodup_append.mpr ⟨n4, b, fun p hp q hq e => ?_⟩, fun p hp => ?_⟩
    · rcases List.mem_append.mp (c q hq) with z | z
      · exact n3 q z p (List.mem_append_left _ hp) e.symm
      · exact n6 p hp q z e
    · rcases List.mem_append.mp hp with hp | hp
      · exact List.mem_append_right _ (List.mem_append_left _ hp)
      · rcases List.mem_append.mp (c p hp) with z | z
        · exact List.mem_append_left _ z
        · exact List.mem_append_right _ (List.mem_append_right _ z)
/-- one slot is frozen -/
theorem EnvRep.fz1 : ∀ {ρ : Env} {σ : St} {as : List Addr}, EnvRep K w P H ρ σ as → as.Nodup → ∀ (i : Nat), ∃ bs cs, EnvRep K w (fun a => P a ∨ a ∈ bs) H (fzAt i ρ) σ cs ∧ (bs ++ cs).Nodup ∧ ∀ a ∈ bs ++ cs, a ∈ as
  | _, _, _, .nil, _, i => ⟨[], [], by unfold fzAt; exact .nil, .nil, fun _ z => nomatch z⟩
  | _, _, _, .no (as := as) r, n, 0 => ⟨[], as, (by unfold fzAt; exact .no (r.mono (.refl _) fun _ z => .inl z)), n, fun _ z => z⟩
  | _, _, _, .no r, n, i + 1 => by
    obtain ⟨bs, cs, a, b, c⟩ := r.fz1 n i
    exact ⟨bs, cs, by unfold fzAt; exact .no a, b, c⟩
  | _, _, _, .yes (as := as1) (bs := bs1) x r, n, 0 => by
    refine ⟨as1, bs1, ?_, n, fun _ z => z⟩
    unfold fzAt
    exact .yes (as := []) (x.fz (fun _ z => .inl z) fun _ z => .inr z) (r.mono (.refl _) fun _ z => .inl z)
  | _, _, _, .yes (as := as1) (bs := bs1) x r, n, i + 1 => by
    obtain ⟨n1, n2, n3⟩ := List.nodup_append.mp n
    obtain ⟨bs, cs, a, b, c⟩ := r.fz1 n2 i
    obtain ⟨m1, m2, m3⟩ := List.nodup_append.mp b
    refine ⟨bs, as1 ++ cs, ?_, ?_, fun p hp => ?_⟩
    · unfold fzAt
      exact .yes (x.mono (.refl _) fun _ z => .inl z) a
    · refine List.nodup_append.mpr ⟨m1, List.nodup_append.mpr ⟨n1, m2, fun p hp q hq e => n3 p hp q (c q (List.mem_append_right _ hq)) e⟩, fun p hp q hq e => ?_⟩
      rcases List.mem_append.mp hq with z | z
      · exact n3 q z p (c p (List.mem_append_left _ hp)) e.symm
      · exact m3 p hp q z e
    · rcases List.mem_append.mp hp with z | z
      · exact List.mem_append_right _ (c p (List.mem_append_left _ z))
      · rcases List.mem_append.mp z with z | z
        · exact List.mem_append_left _ z
        · exact List.mem_append_right _ (c p (List.mem_append_right _ z))
/-- the slots of rd are frozen -/
theorem EnvRep.frz : ∀ (rd : List Nat) {P : Addr → Prop} {ρ : Env} {σ : St} {as : List Addr}, EnvRep K w P H ρ σ as → as.Nodup → (∀ a ∈ as, ¬ P a) →
    ∃ Q cs, (∀ a, P a → Q a) ∧ (∀ a, Q a → P a ∨ a ∈ as) ∧ EnvRep K w Q H (frz rd ρ) σ cs ∧ cs.Nodup ∧ (∀ a ∈ cs, a ∈ as ∧ ¬ Q a) ∧
      ∀ i ∈ rd, ∀ d, ρ[i]? = some (some d) → ∃ v, σ[i]? = some (some v) ∧ Rep K w Q H d.fz v []
  | [], P, ρ, σ, as, r, n, np => ⟨P, as, fun _ z => z, fun _ z => .inl z, r, n, fun a z => ⟨z, np a z⟩, fun _ z => nomatch z⟩
  | j :: rd, P, ρ, σ, as, r, n, np => by
    obtain ⟨bs, cs, a, b, c⟩ := r.fz1 n j
    obtain ⟨m1, m2, m3⟩ := List.nodup_append.mp b
    have np2 : ∀ x ∈ cs, ¬ (P x ∨ x ∈ bs) := fun x hx q => q.elim (np x (c x (List.mem_append_right _ hx))) fun q => m3 x q x hx rfl
    obtain ⟨Q, ds, q1, q2, q3, q4, q5, q6⟩ := EnvRep.frz rd a m2 np2
    refine ⟨Q, ds, fun x hx => q1 x (.inl hx), fun x hx => ?_, q3, q4, fun x hx => ⟨c x (List.mem_append_right _ (q5 x hx).1), (q5 x hx).2⟩, fun i hi d hd => ?_⟩
    · rcases q2 x hx with (z | z) | z
      · exact .inl z
      · exact .inr (c x (List.mem_append_left _ z))
      · exact .inr (c x (List.mem_append_right _ z))
    · by_cases hj : i = j
      · subst hj
        obtain ⟨v, bs', h1, h2, _⟩ := a.get i d.fz (by rw [fzAt_get, hd]; rfl)
        refine ⟨v, h1, ?_⟩
        have fin := h2.fz (P' := Q) q1
        rw [D.fz_fz] at fin
        refine fin fun x hx => ?_
        -- what is frozen owns nothing
        exact absurd hx (by rw [Rep.fz_nil h2]; simp)
      · rcases List.mem_cons.mp hi with hi | hi
        · exact absurd hi hj
        · exact q6 i hi d (by rw [fzAt_ne j i ρ hj]; exact hd)
end
end DL

set_option Elab.async false
set_option linter.all false
set_option maxRecDepth 100000
namespace DL
open PySem PySem.Spec L2
open PyProof.Rows hiding St

/-- what stays through a def's body: the entry's heap, what was frozen there -/
structure Fx where
  L : Lt
  H0 : Hp
  P0 : Addr → Prop
  fz0 : Fz P0 H0
def RelVs (B : Fx) (ρ : Env) (σ : St) (H : Hp) (ds : List D) (vs : List V) : Prop := ∃ P as bs, Grow B.P0 P [] B.H0 H ∧ EnvRep B.L.K B.L.w P H ρ σ as ∧ Reps B.L.K B.L.w P H ds vs bs ∧ (bs ++ as).Nodup ∧ ∀ a ∈ bs ++ as, B.H0 a = none ∧ ¬ P a
abbrev Rel (B : Fx) (ρ : Env) (σ : St) (H : Hp) : Prop := RelVs B ρ σ H [] []

inductive MR where
  | val (d : D) (ρ : Env) | exc (c : Str) (n : Int) (ρ : Env) | stuck
inductive ML where
  | vals (ds : List D) (ρ : Env) | exc (c : Str) (n : Int) (ρ : Env) | stuck
/-- an error flies, what is tracked as ρ tells -/
def FlyR (B : Fx) (c : Str) (n : Int) (ρ : Env) (σ : St) (fr : List D) (fvs : List V) : Prop := ∀ cls d H', RelVs B ρ σ H' fr fvs → XRep B.L.mg H' cls d c n → B.L.W cls d σ H'
abbrev Mv := Env → MR
abbrev MLv := Env → ML

def tM (B : Fx) (m : Mv) : TE := fun σ H Q => ∃ ρ fr fvs, RelVs B ρ σ H fr fvs ∧ match m ρ with
  | .val d ρ' => ∀ v H', RelVs B ρ' σ H' (d :: fr) (v :: fvs) → Q v H'
  | .exc c n ρ' => FlyR B c n ρ' σ fr fvs
  | .stuck => False
def tML (B : Fx) (m : MLv) : TA := fun σ H Q => ∃ ρ fr fvs, RelVs B ρ σ H fr fvs ∧ match m ρ with
  | .vals ds ρ' => ∀ vs H', RelVs B ρ' σ H' (ds ++ fr) (vs ++ fvs) → Q vs H'
  | .exc c n ρ' => FlyR B c n ρ' σ fr fvs
  | .stuck => False

theorem Reps.split {K : PySem.W.Frag} {w : World} {P : Addr → Prop} {H : Hp} : ∀ {xs ys : List D} {us vs : List V} {bs : List Addr}, xs.length = us.length → Reps K w P H (xs ++ ys) (us ++ vs) bs →
    ∃ b1 b2, bs = b1 ++ b2 ∧ Reps K w P H xs us b1 ∧ Reps K w P H ys vs b2
  | [], ys, [], vs, bs, _, h => ⟨[], bs, rfl, .nil, h⟩
  | [], ys, _ :: _, vs, bs, e, h => by simp at e
  | _ :: _, ys, [], vs, bs, e, h => by simp at e
  | x :: xs, ys, u :: us, vs, _, e, .cons (as := a1) a b => by
    obtain ⟨b1, b2, e2, r1, r2⟩ := Reps.split (xs := xs) (us := us) (by simpa using e) b
    exact ⟨a1 ++ b1, b2, by rw [e2, List.append_assoc], .cons a r1, r2⟩
theorem Reps.append {K : PySem.W.Frag} {w : World} {P : Addr → Prop} {H : Hp} : ∀ {xs ys : List D} {us vs : List V} {b1 b2 : List Addr}, Reps K w P H xs us b1 → Reps K w P H ys vs b2 → Reps K w P H (xs ++ ys) (us ++ vs) (b1 ++ b2)
  | _, _, _, _, _, _, .nil, h => h
  | _, _, _, _, _, _, .cons a b, h => by rw [List.append_assoc]; exact .cons a (b.append h)
theorem RelVs.lens {B : Fx} {ρ : Env} {σ : St} {H : Hp} {ds : List D} {vs : List V} (h : RelVs B ρ σ H ds vs) : ds.length = vs.length := by
  obtain ⟨_, _, _, _, _, r, _⟩ := h; exact r.length
theorem RelVs.envlen {B : Fx} {ρ : Env} {σ : St} {H : Hp} {ds : List D} {vs : List V} (h : RelVs B ρ σ H ds vs) : ρ.length = σ.length := by
  obtain ⟨_, _, _, _, r, _, _⟩ := h; exact r.length
/-- the things in another order -/
theorem RelVs.perm {B : Fx} {ρ : Env} {σ : St} {H : Hp} {xs ys zs : List D} {us vs ws : List V} (e1 : xs.length = us.length) (e2 : ys.length = vs.length) (h : RelVs B ρ σ H (xs ++ (ys ++ zs)) (us ++ (vs ++ ws))) : RelVs B ρ σ H (ys ++ (xs ++ zs)) (vs ++ (us ++ ws)) := by
  obtain ⟨P, as, bs, g, er, rr, n, q⟩ := h
  obtain ⟨b1, b', rfl, r1, r'⟩ := rr.split e1
  obtain ⟨b2, b3, rfl, r2, r3⟩ := r'.split e2
  have pm : (b2 ++ (b1 ++ b3) ++ as).Perm (b1 ++ (b2 ++ b3) ++ as) := by
    refine List.Perm.append_right as ?_
    rw [← List.append_assoc, ← List.append_assoc]
    exact List.Perm.append_right b3 List.perm_append_comm
  exact ⟨P, as, b2 ++ (b1 ++ b3), g, er, r2.append (r1.append r3), pm.nodup_iff.mpr n, fun a z => q a (pm.mem_iff.mp z)⟩
theorem RelVs.forget {B : Fx} {ρ : Env} {σ : St} {H : Hp} {ds : List D} {vs : List V} (h : RelVs B ρ σ H ds vs) : Rel B ρ σ H := by
  obtain ⟨P, as, bs, g, er, rr, n, q⟩ := h
  exact ⟨P, as, [], g, er, .nil, (List.nodup_append.mp n).2.1, fun a z => q a (List.mem_append_right _ z)⟩
theorem RelVs.tail {B : Fx} {ρ : Env} {σ : St} {H : Hp} {d : D} {v : V} {ds : List D} {vs : List V} (h : RelVs B ρ σ H (d :: ds) (v :: vs)) : RelVs B ρ σ H ds vs := by
  obtain ⟨P, as, bs, g, er, rr, n, q⟩ := h
  cases rr with
  | cons a b =>
    rename_i a1 b1
    rw [List.append_assoc] at n q
    exact ⟨P, as, b1, g, er, b, (List.nodup_append.mp n).2.1, fun x z => q x (List.mem_append_right _ z)⟩
/-- the heap grows -/
theorem RelVs.same {B : Fx} {ρ : Env} {σ : St} {H H' : Hp} {ds : List D} {vs : List V} (h : RelVs B ρ σ H ds vs) (e : Same H H') : RelVs B ρ σ H' ds vs := by
  obtain ⟨P, as, bs, g, er, rr, n, q⟩ := h
  exact ⟨P, as, bs, ⟨g.same.trans e, g.le, fun a z => (g.new a z).elim .inl fun z => z.elim (fun z => nomatch z) fun ⟨z, o, y⟩ => .inr (.inr ⟨z, o, e _ _ y⟩)⟩, er.mono e fun _ z => z, rr.mono e fun _ z => z, n, q⟩
theorem FlyR.fly {B : Fx} {c : Str} {n : Int} {ρ : Env} {σ : St} {fr : List D} {fvs : List V} {H : Hp} (h : FlyR B c n ρ σ fr fvs) (r : RelVs B ρ σ H fr fvs) : Fly B.L c n σ H := fun cls d H' e x => h cls d H' (r.same e) x
/-- Rel, as a reading's view: the slots of rd are frozen in it -/
theorem RelVs.views {B : Fx} {ρ : Env} {σ : St} {H : Hp} {ds : List D} {vs : List V} (h : RelVs B ρ σ H ds vs) (rd : List Nat) :
    ∃ Q, View B.L.K B.L.w Q H rd ρ σ ∧ ∀ rs us H', OutL B.L.K B.L.w Q [] H H' rs us → RelVs B (if cleans rs = true then ρ else frz rd ρ) σ H' (rs ++ ds) (us ++ vs) := by
  obtain ⟨P, as, bs, g, er, rr, n, q⟩ := h
  obtain ⟨nb, na, nab⟩ := List.nodup_append.mp n
  obtain ⟨Q, cs, q1, q2, q3, q4, q5, q6⟩ := EnvRep.frz rd er na fun a z => (q a (List.mem_append_right _ z)).2
  have fzP : Fz P H := g.fz B.fz0 (fun _ z => nomatch z)
  have fzQ : Fz Q H := fun a z => (q2 a z).elim (fzP a) fun z => (er.there a z).some
  refine ⟨Q, ⟨fzQ, er.length, q6⟩, fun r v H' o => ?_⟩
  obtain ⟨P2, a2, g2, r2, o2, n2⟩ := o
  have fresh : ∀ a ∈ a2, H a = none := fun a z => (n2 a z).elim (fun z => nomatch z) id
  have stand : ∀ a, (∃ o, H a = some o) → a ∉ a2 := fun a ⟨o, h⟩ z => by rw [fresh a z] at h; cases h
  have sb : ∀ a ∈ bs, ∃ o, H a = some o := fun a z => (rr.there a z).some
  have sa : ∀ a ∈ as, ∃ o, H a = some o := fun a z => (er.there a z).some
  have f0 : ∀ a ∈ a2, B.H0 a = none := fun a z => g.same.free (fresh a z)
  have npQ : ∀ a ∈ bs, ¬ Q a := fun a z y => (q2 a y).elim (q a (List.mem_append_left _ z)).2 fun y => nab a z a y rfl
  have new2 : ∀ a, P2 a → Q a ∨ (H a = none ∧ ∃ o, H' a = some o) := fun a z => (g2.new a z).elim .inl fun z => z.elim (fun z => nomatch z) .inr
  by_cases hc : cleans r = true
  · rw [if_pos hc]
    refine ⟨P, as, a2 ++ bs, ⟨g.same.trans g2.same, g.le, fun a z => (g.new a z).elim .inl fun z => z.elim (fun z => nomatch z) fun ⟨z, o, y⟩ => .inr (.inr ⟨z, o, g2.same _ _ y⟩)⟩, er.mono g2.same fun _ z => z, (r2.unP hc).append (rr.mono g2.same fun _ z => z), ?_, fun a z => ?_⟩
    · rw [List.append_assoc]
      exact List.nodup_append.mpr ⟨o2.nd, n, fun a z b y e => by
        subst e
        exact stand a ((List.mem_append.mp y).elim (sb a) (sa a)) z⟩
    · rw [List.append_assoc] at z
      rcases List.mem_append.mp z with z | z
      · exact ⟨f0 a z, fun y => o2.np a z (g2.le a (q1 a y))⟩
      · exact q a z
  · rw [if_neg hc]
    have out : ∀ a, (∃ o, H a = some o) → ¬ Q a → ¬ P2 a := fun a ⟨o, h⟩ nq y => (new2 a y).elim nq fun ⟨z, _⟩ => by rw [h] at z; cases z
    refine ⟨P2, cs, a2 ++ bs, ⟨g.same.trans g2.same, fun a z => g2.le a (q1 a (g.le a z)), fun a z => ?_⟩, q3.mono g2.same g2.le, r2.append (rr.mono g2.same fun a z => g2.le a (q1 a z)), ?_, fun a z => ?_⟩
    · rcases new2 a z with z | ⟨z, y⟩
      · rcases q2 a z with z | z
        · rcases g.new a z with z | z | ⟨z, o, y⟩
          · exact .inl z
          · cases z
          · exact .inr (.inr ⟨z, o, g2.same _ _ y⟩)
        · obtain ⟨o, h⟩ := sa a z
          exact .inr (.inr ⟨(q a (List.mem_append_right _ z)).1, o, g2.same _ _ h⟩)
      · exact .inr (.inr ⟨g.same.free z, y⟩)
    · rw [List.append_assoc]
      refine List.nodup_append.mpr ⟨o2.nd, List.nodup_append.mpr ⟨nb, q4, fun a z b y e => nab a z b (q5 b y).1 e⟩, fun a z b y e => ?_⟩
      subst e
      exact stand a ((List.mem_append.mp y).elim (sb a) fun y => sa a (q5 a y).1) z
    · rw [List.append_assoc] at z
      rcases List.mem_append.mp z with z | z
      · exact ⟨f0 a z, o2.np a z⟩
      · rcases List.mem_append.mp z with z | z
        · exact ⟨(q a (List.mem_append_left _ z)).1, out a (sb a z) (npQ a z)⟩
        · exact ⟨(q a (List.mem_append_right _ (q5 a z).1)).1, out a (sa a (q5 a z).1) (q5 a z).2⟩
theorem Out.list {K : PySem.W.Frag} {w : World} {P : Addr → Prop} {as : List Addr} {H H' : Hp} {r : D} {v : V} (o : Out K w P as H H' r v) : OutL K w P as H H' [r] [v] := by
  obtain ⟨P', as', g, rr, ow, n⟩ := o
  exact ⟨P', as', g, by have := Reps.cons rr .nil; rw [List.append_nil] at this; exact this, ow, n⟩
theorem RelVs.view {B : Fx} {ρ : Env} {σ : St} {H : Hp} {ds : List D} {vs : List V} (h : RelVs B ρ σ H ds vs) (rd : List Nat) :
    ∃ Q, View B.L.K B.L.w Q H rd ρ σ ∧ ∀ r v H', Out B.L.K B.L.w Q [] H H' r v → RelVs B (if r.clean = true then ρ else frz rd ρ) σ H' (r :: ds) (v :: vs) := by
  obtain ⟨Q, vw, k⟩ := h.views rd
  refine ⟨Q, vw, fun r v H' o => ?_⟩
  have := k [r] [v] H' o.list
  simp only [cleans, Bool.and_true] at this
  exact this
/-- things of the frame are frozen -/
theorem RelVs.fzL {B : Fx} {ρ : Env} {σ : St} {H : Hp} {ds fr : List D} {vs fvs : List V} (ln : ds.length = vs.length) (h : RelVs B ρ σ H (ds ++ fr) (vs ++ fvs)) : RelVs B ρ σ H (fzs ds ++ fr) (vs ++ fvs) := by
  obtain ⟨P, as, bs, g, er, rr, n, q⟩ := h
  obtain ⟨b1, b2, rfl, r1, r2⟩ := rr.split ln
  rw [List.append_assoc] at n q
  obtain ⟨n1, n2, n3⟩ := List.nodup_append.mp n
  refine ⟨fun a => P a ∨ a ∈ b1, as, b2, ⟨g.same, fun a z => .inl (g.le a z), fun a z => ?_⟩, er.mono (.refl _) fun _ z => .inl z, (r1.fz (fun _ z => .inl z) fun _ z => .inr z).append (b1 := []) (r2.mono (.refl _) fun _ z => .inl z), n2, fun a z => ⟨(q a (List.mem_append_right _ z)).1, fun y => ?_⟩⟩
  · rcases z with z | z
    · exact g.new a z
    · obtain ⟨o, h⟩ := (r1.there a z).some
      exact .inr (.inr ⟨(q a (List.mem_append_left _ z)).1, o, h⟩)
  · rcases y with y | y
    · exact (q a (List.mem_append_right _ z)).2 y
    · exact n3 a y a z rfl

def mE (rd : List Nat) (f : Ev) : Mv := fun ρ => match f ρ with
  | .val r => .val r (if r.clean = true then ρ else frz rd ρ)
  | .exc c n => .exc c n ρ
  | .stuck => .stuck
/-- a slot's thing, handed on: the slot is empty then -/
def mV (i : Nat) : Mv := fun ρ => match ρ[i]? with
  | some (some d) => .val d (ρ.set i none)
  | _ => .stuck
def mN : MLv := fun ρ => .vals [] ρ
def mC (m : Mv) (l : MLv) : MLv := fun ρ => match m ρ with
  | .val d ρ1 => match l ρ1 with
    | .vals ds ρ2 => .vals (d :: ds) ρ2
    | .exc c n ρ' => .exc c n ρ'
    | .stuck => .stuck
  | .exc c n ρ' => .exc c n ρ'
  | .stuck => .stuck
def mTup (l : MLv) : Mv := fun ρ => match l ρ with
  | .vals ds ρ' => if ds.length ≤ sizeLine then .val (.tup ds) ρ' else .stuck
  | .exc c n ρ' => .exc c n ρ'
  | .stuck => .stuck
def mLst (l : MLv) : Mv := fun ρ => match l ρ with
  | .vals ds ρ' => if ds.length ≤ sizeLine then .val (.lst true ds) ρ' else .stuck
  | .exc c n ρ' => .exc c n ρ'
  | .stuck => .stuck
section
variable {X : Cx} {W : WX} {B : Fx} {e : Expr} {es : List Expr} {pos : Pos} {f : Ev} {m : Mv} {l : MLv} {rd : List Nat}
abbrev DM (X : Cx) (B : Fx) (e : Expr) (m : Mv) : Prop := PE X e (tM B m)
abbrev DML (X : Cx) (B : Fx) (es : List Expr) (m : MLv) : Prop := PA X es (tML B m)
theorem tM_of {σ : St} {H : Hp} {Q : VK} (h : tM B (mE rd f) σ H Q) : tE B.L rd f σ H Q := by
  obtain ⟨ρ, fr, fvs, r, q⟩ := h
  obtain ⟨Q', vw, k⟩ := r.view rd
  refine ⟨ρ, Q', vw, ?_⟩
  unfold mE at q
  cases hf : f ρ with
  | val d =>
    rw [hf] at q
    exact fun v H' o => q v H' (k d v H' o)
  | exc c n => rw [hf] at q; exact q.fly r
  | stuck => rw [hf] at q; exact q
theorem dm_e (h : PE X e (tE B.L rd f)) : DM X B e (mE rd f) := PEi h fun σ H Q q => tM_of q
theorem dm_v {i : Nat} (h : PE X e (tVar i)) : DM X B e (mV i) := PEi h fun σ H Q ⟨ρ, fr, fvs, r, q⟩ => by
  unfold mV at q
  cases h : ρ[i]? with
  | none => rw [h] at q; exact q.elim
  | some x =>
    cases x with
    | none => rw [h] at q; exact q.elim
    | some d =>
      rw [h] at q
      obtain ⟨P, as, bs, g, er, rr, n, qq⟩ := r
      obtain ⟨nb, na, nab⟩ := List.nodup_append.mp n
      obtain ⟨v, b1, cs, hv, rv, er', n', me⟩ := er.take na i d h
      obtain ⟨n1, n2, n3⟩ := List.nodup_append.mp n'
      refine ⟨v, hv, q v H ⟨P, cs, b1 ++ bs, g, er', .cons rv rr, ?_, fun a z => ?_⟩⟩
      · rw [List.append_assoc]
        refine List.nodup_append.mpr ⟨n1, List.nodup_append.mpr ⟨nb, n2, fun a z b y e => nab a z b ((me b).mp (List.mem_append_right _ y)) e⟩, fun a z b y e => ?_⟩
        rcases List.mem_append.mp y with y | y
        · exact nab b y a ((me a).mp (List.mem_append_left _ z)) e.symm
        · exact n3 a z b y e
      · rw [List.append_assoc] at z
        rcases List.mem_append.mp z with z | z
        · exact qq a (List.mem_append_right _ ((me a).mp (List.mem_append_left _ z)))
        · rcases List.mem_append.mp z with z | z
          · exact qq a (List.mem_append_left _ z)
          · exact qq a (List.mem_append_right _ ((me a).mp (List.mem_append_right _ z)))
theorem dml_nil : DML X B [] mN := PAi pa_nil fun σ H Q ⟨ρ, fr, fvs, r, q⟩ => q [] H r
theorem dml_cons (ha : DM X B e m) (hr : DML X B es l) (hs : starEach (e :: es) X.env = (false, eval e X.env) :: starEach es X.env := by rfl) : DML X B (e :: es) (mC m l) :=
  PAi (pa_cons ha hr hs) fun σ H Q ⟨ρ, fr, fvs, r, q⟩ => by
    refine ⟨ρ, fr, fvs, r, ?_⟩
    unfold mC at q
    cases hm : m ρ with
    | val d ρ1 =>
      rw [hm] at q
      intro v H1 r1
      refine ⟨ρ1, d :: fr, v :: fvs, r1, ?_⟩
      cases hl : l ρ1 with
      | vals ds ρ2 =>
        simp only [hl] at q
        intro vs H2 r2
        have ln : ds.length = vs.length := by
          have a := r2.lens
          have b := r1.lens
          simp only [List.length_append, List.length_cons] at a b
          omega
        exact q (v :: vs) H2 (RelVs.perm (xs := ds) (ys := [d]) (us := vs) (vs := [v]) ln rfl r2)
      | exc c n ρ' => simp only [hl] at q; exact fun cls d H' r' x => q cls d H' r'.tail x
      | stuck => simp only [hl] at q
    | exc c n ρ' => rw [hm] at q; exact q
    | stuck => rw [hm] at q; exact q
theorem RelVs.newT {ρ : Env} {σ : St} {H : Hp} {ds fr : List D} {vs fvs : List V} {p : Addr} (hp : H p = none) (ln : ds.length = vs.length) (h : RelVs B ρ σ H (ds ++ fr) (vs ++ fvs)) :
    RelVs B ρ σ (upd H p (.tup vs)) (.tup ds :: fr) (.ref p :: fvs) := by
  obtain ⟨P, as, bs, g, er, rr, n, q⟩ := h.same (same_new (o := .tup vs) hp)
  obtain ⟨b1, b2, rfl, r1, r2⟩ := rr.split ln
  exact ⟨P, as, b1 ++ b2, g, er, .cons (.tup upd_same r1) r2, n, q⟩
theorem RelVs.newL {ρ : Env} {σ : St} {H : Hp} {ds fr : List D} {vs fvs : List V} {p : Addr} (hp : H p = none) (ln : ds.length = vs.length) (h : RelVs B ρ σ H (ds ++ fr) (vs ++ fvs)) :
    RelVs B ρ σ (upd H p (.lst vs)) (.lst true ds :: fr) (.ref p :: fvs) := by
  obtain ⟨P, as, bs, g, er, rr, n, q⟩ := id h
  have np : ¬ P p := fun z => by
    obtain ⟨o, ho⟩ := g.fz B.fz0 (fun _ z => nomatch z) p z
    rw [hp] at ho; cases ho
  have nm : p ∉ bs ++ as := fun z => by
    obtain ⟨o, ho⟩ := ((List.mem_append.mp z).elim (rr.there p) (er.there p)).some
    rw [hp] at ho; cases ho
  have h0 : B.H0 p = none := g.same.free hp
  have e := same_new (o := .lst vs) hp
  obtain ⟨b1, b2, rfl, r1, r2⟩ := rr.split ln
  refine ⟨P, as, p :: (b1 ++ b2), ⟨g.same.trans e, g.le, fun a z => (g.new a z).elim .inl fun z => z.elim (fun z => nomatch z) fun ⟨z, o, y⟩ => .inr (.inr ⟨z, o, e _ _ y⟩)⟩, er.mono e fun _ z => z,
    .cons (as := p :: b1) (.lstO upd_same (r1.mono e fun _ z => z)) (r2.mono e fun _ z => z), List.nodup_cons.mpr ⟨nm, n⟩, fun a z => ?_⟩
  rcases List.mem_cons.mp z with rfl | z
  · exact ⟨h0, np⟩
  · exact q a z
theorem dm_tup {x1} (h : DML X B es l) : DM X B (.Tuple es x1 pos) (mTup l) := PEi (pe_tup h) fun σ H Q ⟨ρ, fr, fvs, r, q⟩ => by
  refine ⟨ρ, fr, fvs, r, ?_⟩
  unfold mTup at q
  cases hl : l ρ with
  | vals ds ρ' =>
    rw [hl] at q
    intro vs H1 r1
    have ln : ds.length = vs.length := by
      have a := r1.lens
      have b := r.lens
      simp only [List.length_append] at a
      omega
    by_cases hz : ds.length ≤ sizeLine
    · simp only [hz, if_true] at q
      exact ⟨by rw [← ln]; exact hz, fun p hp => q _ _ (r1.newT hp ln)⟩
    · simp only [hz, if_false] at q
  | exc c n ρ' => rw [hl] at q; exact q
  | stuck => rw [hl] at q; exact q
theorem dm_lst (h : DML X B es l) : DM X B (.List es pos) (mLst l) := PEi (pe_lst h) fun σ H Q ⟨ρ, fr, fvs, r, q⟩ => by
  refine ⟨ρ, fr, fvs, r, ?_⟩
  unfold mLst at q
  cases hl : l ρ with
  | vals ds ρ' =>
    rw [hl] at q
    intro vs H1 r1
    have ln : ds.length = vs.length := by
      have a := r1.lens
      have b := r.lens
      simp only [List.length_append] at a
      omega
    by_cases hz : ds.length ≤ sizeLine
    · simp only [hz, if_true] at q
      exact ⟨by rw [← ln]; exact hz, fun p hp => q _ _ (r1.newL hp ln)⟩
    · simp only [hz, if_false] at q
  | exc c n ρ' => rw [hl] at q; exact q
  | stuck => rw [hl] at q; exact q
end
end DL

set_option Elab.async false
set_option linter.all false
set_option maxRecDepth 100000
namespace DL
open PySem PySem.Spec L2
open PyProof.Rows hiding St

inductive SR where
  | nx (ρ : Env) | brk (ρ : Env) | ct (ρ : Env) | ret (d : D) | exc (c : Str) (n : Int) (ρ : Env) | stuck
abbrev Sv := Env → SR

/-- what a statement's end asks -/
def Aft (B : Fx) (D : Ends) (fr : List DL.D) (fvs : List V) : SR → Prop
  | .nx ρ => ∀ σ H, RelVs B ρ σ H fr fvs → D.nx σ H
  | .brk ρ => ∀ σ H, RelVs B ρ σ H fr fvs → D.bk σ H
  | .ct ρ => ∀ σ H, RelVs B ρ σ H fr fvs → D.ct σ H
  | .ret d => ∀ v H, Out B.L.K B.L.w B.P0 [] B.H0 H d v → D.rt v H
  | .exc c n ρ => ∀ cls d σ H, RelVs B ρ σ H fr fvs → XRep B.L.mg H cls d c n → B.L.W cls d σ H
  | .stuck => False
def tS (B : Fx) (f : Sv) : TS := fun D σ H => ∃ ρ fr fvs, RelVs B ρ σ H fr fvs ∧ Aft B D fr fvs (f ρ)
abbrev DS (X : Cx) (B : Fx) (st : Stmt) (f : Sv) : Prop := PS X st (tS B f)
abbrev DSs (X : Cx) (B : Fx) (st : List Stmt) (f : Sv) : Prop := PSs X st (tS B f)
theorem PSi {X : Cx} {e : Stmt} {t t' : TS} (h : PS X e t) (i : ∀ D σ H, t' D σ H → t D σ H) : PS X e t' := ⟨fun pins s σ H D I q => h.run pins s σ H D I (i D σ H q)⟩
theorem PSsi {X : Cx} {e : List Stmt} {t t' : TS} (h : PSs X e t) (i : ∀ D σ H, t' D σ H → t D σ H) : PSs X e t' := ⟨fun pins s σ H D I q => h.run pins s σ H D I (i D σ H q)⟩
theorem PGi {X : Cx} {e : Expr} {t t' : TG} (h : PG X e t) (i : ∀ v σ H Q, t' v σ H Q → t v σ H Q) : PG X e t' := ⟨fun pins s σ H v u Q I r q => h.run pins s σ H v u Q I r (i v σ H Q q)⟩
theorem PGsi {X : Cx} {e : List Expr} {t t' : TGs} (h : PGs X e t) (i : ∀ v σ H Q, t' v σ H Q → t v σ H Q) : PGs X e t' := ⟨fun pins s σ H v u Q I r q => h.run pins s σ H v u Q I r (i v σ H Q q)⟩
theorem PIi {X : Cx} {tg e : Expr} {t t' : TI} (h : PI X tg e t) (i : ∀ σ H Q, t' σ H Q → t σ H Q) : PI X tg e t' := ⟨fun pins s σ H R I q => h.run pins s σ H R I (i σ H R q)⟩

def sNx : Sv := fun ρ => .nx ρ
def sBrk : Sv := fun ρ => .brk ρ
def sCt : Sv := fun ρ => .ct ρ
def sSeq (f g : Sv) : Sv := fun ρ => match f ρ with
  | .nx ρ' => g ρ'
  | r => r
/-- where a name's thing goes: a name's slot, or a tuple of such -/
inductive Tg where
  | nm (i : Nat) | tp (l : List Tg) | sub (i : Nat) (es : List Ev)
/-- the list, the dict at a path -/
def keysOf : List Ev → Env → Option (List D)
  | [], _ => some []
  | f :: l, ρ => match f ρ, keysOf l ρ with
    | .val k, some ks => if k.clean = true then some (k :: ks) else none
    | _, _ => none
def dGet : D → D → Option D
  | .lst _ xs, .int k => atI xs k
  | .dic _ kvs, k => (kvs.find? fun p => p.1.keq k).map (·.2)
  | _, _ => none
def kvSet (k d : D) : List (D × D) → List (D × D)
  | [] => [(k, d)]
  | p :: r => if p.1.keq k = true then (p.1, d) :: r else p :: kvSet k d r
def dSet : D → D → D → Option D
  | .lst true xs, .int k, d => (ixN xs.length k).map fun j => .lst true (xs.set j d)
  | _, _, _ => none
def getP : D → List D → Option D
  | d, [] => some d
  | d, k :: ks => (dGet d k).bind fun e => getP e ks
/-- the place's new content, put back -/
def putP : D → List D → D → Option D
  | _, [], d => some d
  | e, k :: ks, d => (dGet e k).bind fun x => (putP x ks d).bind fun x' => dSet e k x'
/-- the path runs along lists -/
def pathL : D → List D → Bool
  | _, [] => true
  | .lst _ xs, .int i :: ks => match atI xs i with
    | some x => pathL x ks
    | none => false
  | _, _ => false
def setP (d0 : D) (ks : List D) (d : D) : Option D := match ks.reverse with
  | [] => none
  | k :: r => if pathL d0 r.reverse = true then (getP d0 r.reverse).bind fun e => (dSet e k d).bind fun e' => putP d0 r.reverse e' else none
mutual
def Tg.put : Tg → D → Env → Option Env
  | .nm i, d, ρ => some (ρ.set i (some d))
  | .sub i es, d, ρ => match keysOf es ρ, ρ[i]? with
    | some ks, some (some d0) => (setP d0 ks d).map fun d1 => ρ.set i (some d1)
    | _, _ => none
  | .tp l, .tup ds, ρ => tgPuts l ds ρ
  | .tp l, .lst _ ds, ρ => tgPuts l ds ρ
  | .tp _, _, _ => none
def tgPuts : List Tg → List D → Env → Option Env
  | [], [], ρ => some ρ
  | t :: l, d :: ds, ρ => match t.put d ρ with
    | some ρ' => tgPuts l ds ρ'
    | none => none
  | _, _, _ => none
end
def sAsg (t : Tg) (m : Mv) : Sv := fun ρ => match m ρ with
  | .val d ρ' => match t.put d ρ' with
    | some ρ2 => .nx ρ2
    | none => .stuck
  | .exc c n ρ' => .exc c n ρ'
  | .stuck => .stuck
abbrev sSet (i : Nat) (m : Mv) : Sv := sAsg (.nm i) m
def sRet (m : Mv) : Sv := fun ρ => match m ρ with
  | .val d _ => .ret d
  | .exc c n ρ' => .exc c n ρ'
  | .stuck => .stuck
def sRetN : Sv := fun _ => .ret .non
def sDrop (m : Mv) : Sv := fun ρ => match m ρ with
  | .val _ ρ' => .nx ρ'
  | .exc c n ρ' => .exc c n ρ'
  | .stuck => .stuck
def sIf (t : Ev) (a b : Sv) : Sv := fun ρ => match t ρ with
  | .val (.bl c) => if c = true then a ρ else b ρ
  | .exc c n => .exc c n ρ
  | _ => .stuck
def whileN (t : Ev) (b : Sv) : Nat → Sv
  | 0 => fun _ => .stuck
  | n + 1 => fun ρ => match t ρ with
    | .val (.bl c) => if c = true then (match b ρ with
      | .nx ρ' => whileN t b n ρ'
      | .ct ρ' => whileN t b n ρ'
      | .brk ρ' => .nx ρ'
      | r => r) else .nx ρ
    | .exc c n => .exc c n ρ
    | _ => .stuck
open Classical in
noncomputable def sWhile (t : Ev) (b : Sv) : Sv := fun ρ => if h : ∃ n, whileN t b n ρ ≠ .stuck then whileN t b h.choose ρ else .stuck
def forL (g : D → Env → Option Env) (b : Sv) : List D → Sv
  | [] => fun ρ => .nx ρ
  | x :: xs => fun ρ => match g x ρ with
    | none => .stuck
    | some ρ1 => match b ρ1 with
      | .nx ρ' => forL g b xs ρ'
      | .ct ρ' => forL g b xs ρ'
      | .brk ρ' => .nx ρ'
      | r => r
/-- for t in ..: gi tells the things that are walked from the arguments -/
def sFor (rd : List Nat) (l : Lv) (gi : List D → Option (List D)) (t : Tg) (b : Sv) : Sv := fun ρ => match l ρ with
  | .vals ds => match gi ds with
    | some xs => forL t.put b (fzs xs) (if cleans ds = true then ρ else frz rd ρ)
    | none => .stuck
  | .exc c n => .exc c n ρ
  | .stuck => .stuck

theorem whileN_more {t : Ev} {b : Sv} : ∀ {n : Nat} {ρ : Env}, whileN t b n ρ ≠ .stuck → ∀ k, whileN t b (n + k) ρ = whileN t b n ρ
  | 0, ρ, h, _ => absurd rfl h
  | n + 1, ρ, h, k => by
    rw [show n + 1 + k = (n + k) + 1 by omega]
    unfold whileN at h ⊢
    cases ht : t ρ with
    | val d =>
      cases d with
      | bl c =>
        simp only [ht] at h ⊢
        cases c with
        | false => rfl
        | true =>
          simp only [if_true] at h ⊢
          cases hb : b ρ with
          | nx ρ' => simp only [hb] at h ⊢; exact whileN_more h k
          | ct ρ' => simp only [hb] at h ⊢; exact whileN_more h k
          | _ => rfl
      | _ => rfl
    | _ => rfl
theorem sWhile_eq {t : Ev} {b : Sv} {n : Nat} {ρ : Env} {r : SR} (h : whileN t b n ρ = r) (hr : r ≠ .stuck) : sWhile t b ρ = r := by
  have ex : ∃ n, whileN t b n ρ ≠ .stuck := ⟨n, by rw [h]; exact hr⟩
  unfold sWhile
  rw [dif_pos ex]
  have c := ex.choose_spec
  have a1 := whileN_more c n
  have a2 := whileN_more (t := t) (b := b) (n := n) (ρ := ρ) (by rw [h]; exact hr) ex.choose
  rw [← a1, Nat.add_comm, a2, h]
theorem sWhile_ex {t : Ev} {b : Sv} {ρ : Env} (h : sWhile t b ρ ≠ .stuck) : ∃ n, whileN t b n ρ = sWhile t b ρ := by
  unfold sWhile at h ⊢
  by_cases ex : ∃ n, whileN t b n ρ ≠ .stuck
  · rw [dif_pos ex]; exact ⟨_, rfl⟩
  · rw [dif_neg ex] at h; exact absurd rfl h

section
variable {X : Cx} {W : WX} {B : Fx} {e : Expr} {es : List Expr} {st : Stmt} {sts : List Stmt} {pos : Pos} {f : Ev} {m : Mv} {F G : Sv} {rd : List Nat}

theorem dss_nil : DSs X B [] sNx := PSsi pss_nil fun D σ H ⟨ρ, fr, fvs, r, q⟩ => q σ H r
theorem dss_cons (h1 : DS X B st F) (h2 : DSs X B sts G) : DSs X B (st :: sts) (sSeq F G) := PSsi (pss_cons h1 h2) fun D σ H ⟨ρ, fr, fvs, r, q⟩ => by
  refine ⟨ρ, fr, fvs, r, ?_⟩
  unfold sSeq at q
  cases hF : F ρ with
  | nx ρ' => rw [hF] at q; exact fun σ' H' r' => ⟨ρ', fr, fvs, r', q⟩
  | brk ρ' => rw [hF] at q; exact q
  | ct ρ' => rw [hF] at q; exact q
  | ret d => rw [hF] at q; exact q
  | exc c n ρ' => rw [hF] at q; exact q
  | stuck => rw [hF] at q; exact q
theorem dss_one (h1 : DS X B st F) : DSs X B [st] F := pss_one h1
theorem ds_pass : DS X B (.Pass pos) sNx := PSi ps_pass fun D σ H ⟨ρ, fr, fvs, r, q⟩ => q σ H r
theorem ds_brk : DS X B (.Break pos) sBrk := PSi ps_break fun D σ H ⟨ρ, fr, fvs, r, q⟩ => q σ H r
theorem ds_ct : DS X B (.Continue pos) sCt := PSi ps_continue fun D σ H ⟨ρ, fr, fvs, r, q⟩ => q σ H r
/-- a slot takes the first thing of the frame -/
theorem RelVs.put {ρ : Env} {σ : St} {H : Hp} {d : DL.D} {v : V} {fr : List DL.D} {fvs : List V} (h : RelVs B ρ σ H (d :: fr) (v :: fvs)) (i : Nat) : RelVs B (ρ.set i (some d)) (σ.set i (some v)) H fr fvs := by
  by_cases hi : i < ρ.length
  · obtain ⟨P, as, bs, g, er, rr, n, q⟩ := h
    cases rr with
    | cons a b =>
      rename_i b1 b2
      rw [List.append_assoc] at n q
      obtain ⟨n1, n2, n3⟩ := List.nodup_append.mp n
      obtain ⟨n4, n5, n6⟩ := List.nodup_append.mp n2
      obtain ⟨cs, er2, nc, mc⟩ := er.drop n5 i
      obtain ⟨ds, er3, nd, md⟩ := er2.put i d v b1 (by rw [List.getElem?_set_self hi]) a (List.nodup_append.mpr ⟨n1, nc, fun x hx y hy e => n3 x hx y (List.mem_append_right _ (mc y hy)) e⟩)
      rw [List.set_set] at er3
      refine ⟨P, ds, b2, g, er3, b, List.nodup_append.mpr ⟨n4, nd, fun x hx y hy e => ?_⟩, fun x hx => ?_⟩
      · rcases List.mem_append.mp (md y hy) with z | z
        · exact n3 y z x (List.mem_append_left _ hx) e.symm
        · exact n6 x hx y (mc y z) e
      · rcases List.mem_append.mp hx with z | z
        · exact q x (List.mem_append_right _ (List.mem_append_left _ z))
        · rcases List.mem_append.mp (md x z) with z | z
          · exact q x (List.mem_append_left _ z)
          · exact q x (List.mem_append_right _ (List.mem_append_right _ (mc x z)))
  · have hl := h.envlen
    rw [List.set_eq_of_length_le (by omega), List.set_eq_of_length_le (by omega)]
    exact h.tail

def tG (B : Fx) (t : Tg) : TG := fun v σ H Q => ∃ ρ d fr fvs, RelVs B ρ σ H (d :: fr) (v :: fvs) ∧ match t.put d ρ with
  | some ρ' => ∀ σ' H', RelVs B ρ' σ' H' fr fvs → Q σ' H'
  | none => False
def tGs (B : Fx) (l : List Tg) : TGs := fun vs σ H Q => ∃ ρ ds fr fvs, RelVs B ρ σ H (ds ++ fr) (vs ++ fvs) ∧ ds.length = vs.length ∧ match tgPuts l ds ρ with
  | some ρ' => ∀ σ' H', RelVs B ρ' σ' H' fr fvs → Q σ' H'
  | none => False
abbrev DG (X : Cx) (B : Fx) (e : Expr) (t : Tg) : Prop := PG X e (tG B t)
abbrev DGs (X : Cx) (B : Fx) (es : List Expr) (l : List Tg) : Prop := PGs X es (tGs B l)
theorem dg_nm {i : Nat} (h : PG X e (gName i)) : DG X B e (.nm i) := PGi h fun v σ H Q ⟨ρ, d, fr, fvs, r, q⟩ => q _ H (r.put i)
theorem dgs_nil : DGs X B [] [] := PGsi pgs_nil fun vs σ H Q ⟨ρ, ds, fr, fvs, r, ln, q⟩ => by
  cases ds with
  | nil =>
    cases vs with
    | nil => exact ⟨rfl, q σ H r⟩
    | cons _ _ => simp at ln
  | cons _ _ => exact q.elim
theorem dgs_cons {t : Tg} {l : List Tg} (h1 : DG X B e t) (h2 : DGs X B es l) (hs : (assignEach (e :: es) X.env).map (·.2) = assign e X.env :: (assignEach es X.env).map (·.2) := by rfl) : DGs X B (e :: es) (t :: l) :=
  PGsi (pgs_cons h1 h2 hs) fun vs σ H Q ⟨ρ, ds, fr, fvs, r, ln, q⟩ => by
    cases ds with
    | nil => exact q.elim
    | cons d ds =>
      cases vs with
      | nil => simp at ln
      | cons v vs =>
        refine ⟨v, vs, rfl, ρ, d, ds ++ fr, vs ++ fvs, r, ?_⟩
        simp only [tgPuts] at q
        cases ht : t.put d ρ with
        | none => rw [ht] at q; exact q
        | some ρ' =>
          rw [ht] at q
          exact fun σ' H' r' => ⟨ρ', ds, fr, fvs, r', by simpa using ln, q⟩
theorem RelVs.spread {ρ : Env} {σ : St} {H : Hp} {d : DL.D} {ds : List DL.D} {v : V} {fr : List DL.D} {fvs : List V} (r : RelVs B ρ σ H (d :: fr) (v :: fvs)) (hd : d = .tup ds ∨ ∃ o, d = .lst o ds) :
    ∃ a vs, v = .ref a ∧ ((∃ K, SqT K H a vs) ∨ ∃ K, SqL K H a vs) ∧ (d = .tup ds → H a = some (.tup vs)) ∧ ((∃ o, d = .lst o ds) → H a = some (.lst vs)) ∧ ds.length = vs.length ∧ RelVs B ρ σ H (ds ++ fr) (vs ++ fvs) := by
  obtain ⟨P, as, bs, g, er, rr, nn, qq⟩ := r
  cases rr with
  | cons a b =>
    rename_i b1 b2
    rcases hd with rfl | ⟨o, rfl⟩
    · cases a with
      | @tup adr vs1 _ _ ha ra => exact ⟨adr, vs1, rfl, .inl ⟨B.L.K, .of ha⟩, (fun _ => ha), (fun ⟨o, z⟩ => by cases z), ra.length, P, as, b1 ++ b2, g, er, ra.append b, nn, qq⟩
    · cases a with
      | @lstF adr vs1 _ hF ra => exact ⟨adr, vs1, rfl, .inr ⟨B.L.K, hF.sql⟩, (fun z => by cases z), (fun _ => hF.1), ra.length, P, as, [] ++ b2, g, er, ra.append b, nn, qq⟩
      | @lstO adr vs1 _ as1 hH ra =>
        refine ⟨adr, vs1, rfl, .inr ⟨B.L.K, .of hH⟩, (fun z => by cases z), (fun _ => hH), ra.length, P, as, as1 ++ b2, g, er, ra.append b, ?_, fun x z => qq x ?_⟩
        · exact (List.nodup_cons.mp nn).2
        · exact List.mem_cons_of_mem _ z
theorem tgPuts_len0 : ∀ (l : List Tg) (ds : List DL.D) (ρ ρ' : Env), tgPuts l ds ρ = some ρ' → ds.length = l.length := by
  intro l
  induction l with
  | nil => intro ds ρ ρ' h; cases ds with
    | nil => rfl
    | cons _ _ => simp [tgPuts] at h
  | cons t l ih => intro ds ρ ρ' h; cases ds with
    | nil => simp [tgPuts] at h
    | cons d ds =>
      simp only [tgPuts] at h
      split at h
      · simp [ih ds _ _ h]
      · cases h
theorem PG.or' {e : Expr} {t u : TG} (h1 : PG X e t) (h2 : PG X e u) : PG X e (fun v σ H Q => t v σ H Q ∨ u v σ H Q) := ⟨fun pins s σ H v w Q I r h => h.elim (h1.run pins s σ H v w Q I r) (h2.run pins s σ H v w Q I r)⟩
theorem dg_tup {k n : Nat} {l : List Tg} (hc : X.calm = true) (h : DGs X B es l) (hn : (assignEach es X.env).length = n := by rfl) (hl : l.length = n := by rfl) (hst : (assignEach es X.env).findIdx? (·.1) = none := by rfl) : DG X B (.Tuple es k pos) (.tp l) :=
  PGi (PG.or' (pg_tup hc h hn hst) (pg_lst hc h hn hst)) fun v σ H Q ⟨ρ, d, fr, fvs, r, q⟩ => by
    have go : ∀ ds, (d = .tup ds ∨ ∃ o, d = .lst o ds) → (match tgPuts l ds ρ with | some ρ' => ∀ σ' H', RelVs B ρ' σ' H' fr fvs → Q σ' H' | none => False) → L2.gTup X.K n (tGs B l) v σ H Q ∨ L2.gLst X.K n (tGs B l) v σ H Q := fun ds hd q => by
      obtain ⟨a, vs, rfl, _, h1, h2, ln, r'⟩ := r.spread hd
      have hlen : ds.length = l.length := by
        cases hp : tgPuts l ds ρ with
        | none => rw [hp] at q; exact q.elim
        | some ρ' => exact tgPuts_len0 l ds ρ ρ' hp
      rcases hd with rfl | hd
      · exact .inl ⟨a, vs, rfl, .of (h1 rfl), by omega, ρ, ds, fr, fvs, r', ln, q⟩
      · exact .inr ⟨a, vs, rfl, .of (h2 hd), by omega, ρ, ds, fr, fvs, r', ln, q⟩
    cases d with
    | tup ds => simp only [Tg.put] at q; exact go ds (.inl rfl) q
    | lst o ds => simp only [Tg.put] at q; exact go ds (.inr ⟨o, rfl⟩) q
    | _ => simp only [Tg.put] at q

theorem ds_asg {tg : Expr} {t : Tg} (he : DM X B e m) (hg : DG X B tg t) (hs : swapsWithSole [tg] e pos.line X.env = pure false := by rfl) (hw : swappedStores [tg] e X.env = pure none := by rfl)
    (h1 : (assignEach [tg] X.env).map (·.2) = [assign tg X.env] := by rfl) : DS X B (.Assign [tg] e pos) (sAsg t m) := PSi (ps_asg he hg hs hw h1) fun D σ H ⟨ρ, fr, fvs, r, q⟩ => by
  refine ⟨ρ, fr, fvs, r, ?_⟩
  unfold sAsg at q
  cases hm : m ρ with
  | val d ρ' =>
    rw [hm] at q
    intro v H' r'
    refine ⟨ρ', d, fr, fvs, r', ?_⟩
    cases ht : t.put d ρ' with
    | some ρ2 => simp only [ht] at q; exact fun σ' H2 r2 => q σ' H2 r2
    | none => simp only [ht] at q; exact q
  | exc c n ρ' => rw [hm] at q; exact fun cls d H' r' x => q cls d σ H' r' x
  | stuck => rw [hm] at q; exact q
theorem ds_set {i : Nat} {x : Str} {pos' : Pos} (hN : X.N.Nodup) (hi : X.N[i]? = some x) (hx : Loc X.env.scope x) (he : DM X B e m) (hs : swapsWith e (some (.Name x pos')) pos.line X.env = pure false := by rfl) (hf : X.fn x = true ∨ X.env.scope.names.lookup x = some .local := by first | exact .inl rfl | exact .inr rfl | assumption) :
    DS X B (.Assign [.Name x pos'] e pos) (sSet i m) := PSi (ps_set hN hi hx he hs hf) fun D σ H ⟨ρ, fr, fvs, r, q⟩ => by
  refine ⟨ρ, fr, fvs, r, ?_⟩
  unfold sSet sAsg at q
  cases hm : m ρ with
  | val d ρ' =>
    rw [hm] at q
    intro v H' r'
    simp only [Tg.put] at q
    exact q _ H' (r'.put i)
  | exc c n ρ' => rw [hm] at q; exact fun cls d H' r' x => q cls d σ H' r' x
  | stuck => rw [hm] at q; exact q
theorem ds_drop (he : DM X B e m) (hs : swapsWith e none pos.line X.env = pure false := by rfl) : DS X B (.Expr e pos) (sDrop m) := PSi (ps_expr he hs) fun D σ H ⟨ρ, fr, fvs, r, q⟩ => by
  refine ⟨ρ, fr, fvs, r, ?_⟩
  unfold sDrop at q
  cases hm : m ρ with
  | val d ρ' => rw [hm] at q; exact fun v H' r' => q σ H' r'.tail
  | exc c n ρ' => rw [hm] at q; exact fun cls d H' r' x => q cls d σ H' r' x
  | stuck => rw [hm] at q; exact q
theorem RelVs.ret {ρ : Env} {σ : St} {H : Hp} {d : DL.D} {v : V} {fr : List DL.D} {fvs : List V} (h : RelVs B ρ σ H (d :: fr) (v :: fvs)) : Out B.L.K B.L.w B.P0 [] B.H0 H d v := by
  obtain ⟨P, as, bs, g, er, rr, n, q⟩ := h
  cases rr with
  | cons a b =>
    rename_i b1 b2
    rw [List.append_assoc] at n q
    exact ⟨P, b1, g, a, ⟨(List.nodup_append.mp n).1, fun x z => (q x (List.mem_append_left _ z)).2⟩, fun x z => .inr (q x (List.mem_append_left _ z)).1⟩
theorem ds_ret (he : DM X B e m) : DS X B (.Return (some e) pos) (sRet m) := PSi (ps_ret he) fun D σ H ⟨ρ, fr, fvs, r, q⟩ => by
  refine ⟨ρ, fr, fvs, r, ?_⟩
  unfold sRet at q
  cases hm : m ρ with
  | val d ρ' => rw [hm] at q; exact fun v H' r' => q v H' r'.ret
  | exc c n ρ' => rw [hm] at q; exact fun cls d H' r' x => q cls d σ H' r' x
  | stuck => rw [hm] at q; exact q
theorem ds_retN : DS X B (.Return none pos) sRetN := PSi ps_retN fun D σ H ⟨ρ, fr, fvs, r, q⟩ => by
  obtain ⟨P, as, bs, g, _⟩ := r
  exact q .non H ⟨P, [], g, .non, .nil, fun _ z => nomatch z⟩

theorem test_of {σ : St} {H : Hp} {ρ : Env} {fr : List DL.D} {fvs : List V} {Q : Bool → Hp → Prop} (r : RelVs B ρ σ H fr fvs)
    (h : match f ρ with
      | .val (.bl c) => ∀ H', Same H H' → RelVs B ρ σ H' fr fvs → Q c H'
      | .val _ => False
      | .exc c n => ∀ cls d H', RelVs B ρ σ H' fr fvs → XRep B.L.mg H' cls d c n → B.L.W cls d σ H'
      | .stuck => False) : tT B.L rd f σ H Q := by
  obtain ⟨Q', vw, _⟩ := r.view rd
  refine ⟨ρ, Q', vw, ?_⟩
  cases hf : f ρ with
  | val d =>
    rw [hf] at h
    cases d with
    | bl c => exact fun H' e => h H' e (r.same e)
    | _ => exact h
  | exc c n => rw [hf] at h; exact fun cls d H' e x => h cls d H' (r.same e) x
  | stuck => rw [hf] at h; exact h
theorem ds_if {c : Expr} {a b : List Stmt} (hc : PT X c (tT B.L rd f)) (ha : DSs X B a F) (hb : DSs X B b G) : DS X B (.If c a b pos) (sIf f F G) := PSi (ps_if hc ha hb) fun D σ H ⟨ρ, fr, fvs, r, q⟩ => by
  refine test_of r ?_
  unfold sIf at q
  cases hf : f ρ with
  | val d =>
    rw [hf] at q
    cases d with
    | bl c =>
      intro H' e' r'
      cases c with
      | true => exact ⟨ρ, fr, fvs, r', q⟩
      | false => exact ⟨ρ, fr, fvs, r', q⟩
    | _ => exact q
  | exc c n => rw [hf] at q; exact fun cls d H' r' x => q cls d σ H' r' x
  | stuck => rw [hf] at q; exact q
theorem ds_while {c : Expr} {body : List Stmt} (hp : PassesOwn (model X.prog X.w) X.A X.env X.xe) (hc : PT X c (tT B.L rd f)) (hb : DSs X B body F) : DS X B (.While c body [] pos) (sWhile f F) :=
  PSi (ps_while hp hc hb) fun D σ H ⟨ρ, fr, fvs, r, q⟩ => by
    have ns : sWhile f F ρ ≠ .stuck := fun z => by rw [z] at q; exact q
    obtain ⟨n0, hn⟩ := sWhile_ex ns
    rw [← hn] at q
    refine ⟨fun n σ H => ∃ ρ, RelVs B ρ σ H fr fvs ∧ Aft B D fr fvs (whileN f F n ρ), ⟨n0, ρ, r, q⟩, ?_⟩
    rintro n σ1 H1 ⟨ρ1, r1, q1⟩
    cases n with
    | zero => exact q1.elim
    | succ n =>
      refine test_of r1 ?_
      unfold whileN at q1
      cases hf : f ρ1 with
      | val d =>
        rw [hf] at q1
        cases d with
        | bl c =>
          intro H' e' r'
          cases c with
          | false => exact q1 σ1 H' r'
          | true =>
            refine ⟨fun σ' H' => ∃ ρ', RelVs B ρ' σ' H' fr fvs ∧ Aft B D fr fvs (whileN f F n ρ'), fun σ' H' z => ⟨n, Nat.lt_succ_self n, z⟩, ρ1, fr, fvs, r', ?_⟩
            simp only [if_true] at q1
            cases hF : F ρ1 with
            | nx ρ' => simp only [hF] at q1; exact fun σ' H' r2 => ⟨ρ', r2, q1⟩
            | ct ρ' => simp only [hF] at q1; exact fun σ' H' r2 => ⟨ρ', r2, q1⟩
            | brk ρ' => simp only [hF] at q1; exact q1
            | ret d => simp only [hF] at q1; exact q1
            | exc c n ρ' => simp only [hF] at q1; exact q1
            | stuck => simp only [hF] at q1; exact q1
        | _ => exact q1
      | exc c n => rw [hf] at q1; exact fun cls d H' r' x => q1 cls d σ1 H' r' x
      | stuck => rw [hf] at q1; exact q1

/-- the iterator J yields xs, while the things fd (at fv) stand frozen -/
def ItOk (K : PySem.W.Frag) (w : World) (J : It) (fd : List DL.D) (fv : List V) (xs : List DL.D) : Prop :=
  ∀ (P : Addr → Prop) (H : Hp), Fz P H → Reps K w P H fd fv [] → ∀ i, (∀ x, xs[i]? = some x → J.go i H ∧ ∀ v H', J.yld i H v H' → Out K w P [] H H' x.fz v) ∧ (i = xs.length → J.stop i H)
def tI (L : Lt) (rd : List Nat) (l : Lv) (gi : List DL.D → Option (List DL.D)) : TI := fun σ H R => ∃ ρ P, View L.K L.w P H rd ρ σ ∧ match l ρ with
  | .vals ds => (match gi ds with
    | some xs => ∀ J vs gd gv H', OutL L.K L.w P [] H H' ds vs → (∀ P', Reps L.K L.w P' H' (fzs ds) vs [] → Reps L.K L.w P' H' (fzs gd) gv []) → ItOk L.K L.w J (fzs gd) gv xs → R J H'
    | none => False)
  | .exc c n => Fly L c n σ H
  | .stuck => False
abbrev DI (X : Cx) (W : WX) (tg e : Expr) (rd : List Nat) (l : Lv) (gi : List DL.D → Option (List DL.D)) : Prop := PI X tg e (tI (lt X W) rd l gi)
theorem fzs_get {xs : List DL.D} {i : Nat} {x : DL.D} (h : xs[i]? = some x) : (fzs xs)[i]? = some x.fz := by rw [fzs_eq, List.getElem?_map, h]; rfl
theorem forL_drop {g : DL.D → Env → Option Env} {b : Sv} {xs : List DL.D} {i : Nat} {x : DL.D} (h : xs[i]? = some x) : forL g b (xs.drop i) = forL g b (x :: xs.drop (i + 1)) := by
  rw [List.drop_eq_getElem_cons (List.getElem?_eq_some_iff.mp h).1, (List.getElem?_eq_some_iff.mp h).2]
theorem ds_for {tg iter : Expr} {body : List Stmt} {t : Tg} {l : Lv} {gi : List DL.D → Option (List DL.D)} (hp : PassesOwn (model X.prog X.w) X.A X.env X.xe) (hc : X.calm = true) (hi : PI X tg iter (tI B.L rd l gi)) (hg : DG X B tg t) (hb : DSs X B body F)
    (hs : ∀ x, foldedSetIterable iter X.env x = pure x := by intro _; rfl) : DS X B (.For tg iter body [] pos) (sFor rd l gi t F) := PSi (ps_for hp hc hi hg hb hs) fun D σ H ⟨ρ, fr, fvs, r, q⟩ => by
  obtain ⟨Q', vw, k⟩ := r.views rd
  refine ⟨ρ, Q', vw, ?_⟩
  unfold sFor at q
  cases hl : l ρ with
  | vals ds =>
    rw [hl] at q
    cases hx : gi ds with
    | none => simp only [hx] at q; exact q.elim
    | some xs =>
      simp only [hx] at q ⊢
      intro J vs gd gv H1 o gh ok
      have r1 := k ds vs H1 o
      have ln0 : ds.length = vs.length := by obtain ⟨_, _, _, rr, _⟩ := o; exact rr.length
      have r2 := r1.fzL ln0
      generalize (if cleans ds = true then ρ else frz rd ρ) = ρ1 at q r2
      have ⟨lnf, r2'⟩ : (fzs gd).length = gv.length ∧ RelVs B ρ1 σ H1 (fzs gd ++ fr) (gv ++ fvs) := by
        obtain ⟨P, as, bs, g, er, rr, n, qq⟩ := r2
        obtain ⟨b1, b2, rfl, ra, rb⟩ := rr.split (by rw [fzs_eq, List.length_map]; exact ln0)
        have e1 : b1 = [] := Reps.fz_nil (ds := ds) ra
        subst e1
        have rg := gh P ra
        exact ⟨rg.length, P, as, b2, g, er, rg.append rb, n, qq⟩
      -- the invariant
      refine ⟨fun i m σ H => m = (fzs xs).length - i ∧ i ≤ (fzs xs).length ∧ ∃ ρ, RelVs B ρ σ H (fzs gd ++ fr) (gv ++ fvs) ∧ Aft B D fr fvs (forL t.put F ((fzs xs).drop i) ρ), ⟨_, rfl, Nat.zero_le _, ρ1, r2', q⟩, ?_⟩
      rintro i m σ2 H2 ⟨rfl, hi, ρ2, r3, q3⟩
      have dropR : ∀ {ρ σ H}, RelVs B ρ σ H (fzs gd ++ fr) (gv ++ fvs) → RelVs B ρ σ H fr fvs := fun {ρ σ H} h => by
        obtain ⟨P, as, bs, g, er, rr, n, qq⟩ := h
        obtain ⟨b1, b2, rfl, r1, r2⟩ := rr.split lnf
        rw [List.append_assoc] at n qq
        exact ⟨P, as, b2, g, er, r2, (List.nodup_append.mp n).2.1, fun a z => qq a (List.mem_append_right _ z)⟩
      have atP : ∀ i, (∀ x, xs[i]? = some x → J.go i H2 ∧ ∀ v H', J.yld i H2 v H' → RelVs B ρ2 σ2 H' (x.fz :: (fzs gd ++ fr)) (v :: (gv ++ fvs))) ∧ (i = xs.length → J.stop i H2) := fun i => by
        obtain ⟨P, as, bs, g, er, rr, n, qq⟩ := id r3
        obtain ⟨b1, b2, rfl, ra, rb⟩ := rr.split lnf
        have e1 : b1 = [] := Reps.fz_nil (ds := gd) ra
        subst e1
        have fzP : Fz P H2 := g.fz B.fz0 (fun _ z => nomatch z)
        have z := ok P H2 fzP ra i
        refine ⟨fun x hx => ⟨(z.1 x hx).1, fun v H' y => ?_⟩, z.2⟩
        obtain ⟨P2, a2, g2, rr2, ow2, n2⟩ := (z.1 x hx).2 v H' y
        have e2 : a2 = [] := Rep.fz_nil (d := x) rr2
        subst e2
        have new2 : ∀ a, P2 a → P a ∨ (H2 a = none ∧ ∃ o, H' a = some o) := fun a z => (g2.new a z).elim .inl fun z => z.elim (fun z => nomatch z) .inr
        refine ⟨P2, as, [] ++ b2, ⟨g.same.trans g2.same, fun a z => g2.le a (g.le a z), fun a z => ?_⟩, er.mono g2.same g2.le, .cons (as := []) rr2 (rr.mono g2.same g2.le), n, fun a z => ⟨(qq a z).1, fun y => ?_⟩⟩
        · rcases new2 a z with z | ⟨z, y⟩
          · rcases g.new a z with z | z | ⟨z, o, y⟩
            · exact .inl z
            · cases z
            · exact .inr (.inr ⟨z, o, g2.same _ _ y⟩)
          · exact .inr (.inr ⟨g.same.free z, y⟩)
        · rcases new2 a y with y | ⟨y, _⟩
          · exact (qq a z).2 y
          · obtain ⟨o, ho⟩ := ((List.mem_append.mp z).elim (fun z => rb.there a (by simpa using z)) (er.there a)).some
            rw [y] at ho; cases ho
      have lx : (fzs xs).length = xs.length := by rw [fzs_eq, List.length_map]
      by_cases hlt : i < xs.length
      · obtain ⟨x, hx'⟩ : ∃ x, xs[i]? = some x := ⟨xs[i], List.getElem?_eq_getElem hlt⟩
        obtain ⟨go, yl⟩ := (atP i).1 x hx'
        refine .inr ⟨go, fun σ' H' => ∃ ρ, RelVs B ρ σ' H' (fzs gd ++ fr) (gv ++ fvs) ∧ Aft B D fr fvs (forL t.put F ((fzs xs).drop (i + 1)) ρ), fun σ' H' z => ⟨_, by rw [lx]; omega, rfl, by rw [lx]; omega, z⟩, fun v H' y => ?_⟩
        refine ⟨ρ2, x.fz, fzs gd ++ fr, gv ++ fvs, yl v H' y, ?_⟩
        rw [forL_drop (fzs_get hx')] at q3
        unfold forL at q3
        cases ht : t.put x.fz ρ2 with
        | none => simp only [ht] at q3; exact q3
        | some ρ3 =>
          simp only [ht] at q3
          intro σ3 H3 r4
          refine ⟨ρ3, fzs gd ++ fr, gv ++ fvs, r4, ?_⟩
          cases hF : F ρ3 with
          | nx ρ' => simp only [hF] at q3; exact fun σ' H' r5 => ⟨ρ', r5, q3⟩
          | ct ρ' => simp only [hF] at q3; exact fun σ' H' r5 => ⟨ρ', r5, q3⟩
          | brk ρ' => simp only [hF] at q3; exact fun σ' H' r5 => q3 σ' H' (dropR r5)
          | ret d => simp only [hF] at q3; exact q3
          | exc c n ρ' => simp only [hF] at q3; exact fun cls d σ' H' r5 x => q3 cls d σ' H' (dropR r5) x
          | stuck => simp only [hF] at q3; exact q3
      · refine .inl ⟨(atP i).2 (by omega), ?_⟩
        rw [List.drop_eq_nil_iff.mpr (by rw [lx]; omega)] at q3
        exact q3 σ2 H2 (dropR r3)
  | exc c n => rw [hl] at q; exact fun cls d H' e' x => q cls d σ H' (r.same e') x
  | stuck => rw [hl] at q; exact q
end
end DL

set_option Elab.async false
set_option linter.all false
set_option maxRecDepth 100000
namespace DL
open PySem PySem.Spec L2
open PyProof.Rows hiding St

def runF (N n : Nat) (F : Sv) : List D → ER := fun ds => if ds.length = n then (match F (ds.map some ++ List.replicate (N - n) none) with
  | .ret d => .val d
  | .nx _ => .val .non
  | .exc c k _ => .exc c k
  | _ => .stuck) else .stuck
theorem EnvRep.nones {K : PySem.W.Frag} {w : World} {P : Addr → Prop} {H : Hp} : ∀ (n : Nat), EnvRep K w P H (List.replicate n none) (List.replicate n none) []
  | 0 => .nil
  | n + 1 => by rw [List.replicate_succ, List.replicate_succ]; exact .no (EnvRep.nones n)
theorem EnvRep.start {K : PySem.W.Frag} {w : World} {P : Addr → Prop} {H : Hp} (n : Nat) : ∀ {ds : List D} {vs : List V} {as : List Addr}, Reps K w P H ds vs as → EnvRep K w P H (ds.map some ++ List.replicate n none) (vs.map some ++ List.replicate n none) as
  | _, _, _, .nil => EnvRep.nones n
  | _, _, _, .cons x y => .yes x (EnvRep.start n y)

/-- the letters of a def's body -/
abbrev ltF (K : PySem.W.Frag) (w : World) (mg : Str → Option Value) (E : XK) : Lt := ⟨K, w, mg, fun cls d _ H => E cls d H⟩
section
variable {P : Program} {w : World} {K : PySem.W.Frag} {mg : Str → Option Value} {base : Heap}
theorem dx_of {N ps : List Str} {qual : Str} {st : Stmt} {f : Addr} {cdv : Value} {A : Around} {outer : List PySem.Env} {s : Shared} {H : Hp} {E : XK} {k : Nat} (S : FnScope N ps (defScope st)) (hr : RoomG k (A.deeper (envOfC qual (defScope st) s.heap.objs.size f cdv))) :
    Dx (cxOf (L2.CX P w) P w K mg base N qual (defScope st) f cdv A outer s H E) (fun cls d _ H => E cls d H) k :=
  ⟨takes_of rfl rfl rfl rfl, rfl, S.nd, hr.gd, hr.rm⟩
/-- THE RULE for a def -/
theorem fn_ofG {x qual : Str} {st : Stmt} {f : Addr} {fd : FuncData} {N ps : List Str} {k : Nat} {G : Sv} (F : Fun K x qual st f fd) (S : FnScope N ps (defScope st))
    (hbody : ∀ (cdv : Value) (A : Around) (outer : List PySem.Env) (s : Shared) (H : Hp) (E : XK) (P0 : Addr → Prop) (fz : Fz P0 H), RoomG k (A.deeper (envOfC qual (defScope st) s.heap.objs.size f cdv)) →
      DSs (cxOf (L2.CX P w) P w K mg base N qual (defScope st) f cdv A outer s H E) ⟨ltF K w mg E, H, P0, fz⟩ (defBody st) G) :
    FnG P w K mg base (k + 1) f fd ps (spD K w mg (runF N.length ps.length G)) := by
  have len : ∀ vs H Q E, spD K w mg (runF N.length ps.length G) vs H Q E → vs.length = ps.length := fun vs H Q E ⟨P0, ds, _, rr, q⟩ => by
    by_cases h : ds.length = ps.length
    · rw [← rr.length]; exact h
    · unfold runF at q
      rw [if_neg h] at q
      exact q.elim
  refine ⟨len, fun A outer s H args us vs Q E hr e0 hb r hsp => ?_⟩
  obtain ⟨oc, od, kV, doc, pm, an, cdv, ct, osl, rfl, lk, hcd⟩ := F.ex
  have hl := len _ _ _ _ hsp
  have KX : K.In s.heap := e0.mod.kin.keeps fun b o e => (e0.bs b o e).1
  have lim : s.heap.NoLimit := e0.mod.nolimit.keeps fun b o e => (e0.bs b o e).1
  have hkind : ∀ y ∈ ps.zip us, (defScope st).names.lookup y.1 = some .local ∨ ((defScope st).names.lookup y.1 = some .cell ∧ ((cellsFrom (s.heap.objs.size + 1) (defScope st).names []).lookup y.1).isSome = true) := fun ⟨n, v⟩ hy => by
    rcases S.par n (List.of_mem_zip hy).1 with q | q
    · exact .inl q
    · exact .inr ⟨q, PySem.W.cellsFrom_some _ _ _ (.inl q)⟩
  refine codeAny_call_function hr.rm.depth (KX _ _ lk) rfl S.co S.gen rfl (PySem.W.codeRec_of KX hcd) (hb _ _ _ _ ?_)
  refine wpAny_newFunctionEnv_cells S.kind hkind fun env he s1 x => ?_
  subst he
  refine ⟨lim.keeps x.toInCall.keep, codeAny_func ?_⟩
  obtain ⟨P0, ds, fz, rr, hq⟩ := hsp
  have ht := hbody cdv A outer s H E P0 fz ⟨hr.rm.deeper _, hr.gd⟩
  have I : Inv (cxOf (L2.CX P w) P w K mg base N qual (defScope st) f cdv A outer s H E) [] (start N vs) H s1 := inv_start S hr.rm.hd e0 hl r x
  have hn : N.length - vs.length = N.length - ps.length := by rw [hl]
  unfold runF at hq
  have hds : ds.length = ps.length := by rw [rr.length]; exact hl
  rw [if_pos hds] at hq
  have rel : RelVs ⟨ltF K w mg E, H, P0, fz⟩ (ds.map some ++ List.replicate (N.length - ps.length) none) (start N vs) H [] [] := by
    refine ⟨P0, [], [], .refl, ?_, .nil, .nil, fun _ z => nomatch z⟩
    have := EnvRep.start (K := K) (w := w) (P := P0) (H := H) (N.length - ps.length) rr
    show EnvRep K w P0 H _ (vs.map some ++ List.replicate (N.length - vs.length) none) []
    rw [hn]
    exact this
  refine wpAny_mono (ht.run [] s1 (start N vs) H { nx := fun _ H' => Q .non H', rt := Q } I ⟨_, [], [], rel, ?_⟩) (fun fl s' hs => ?_) fun e s' hs => hs
  · cases hG : G (ds.map some ++ List.replicate (N.length - ps.length) none) with
    | nx ρ =>
      rw [hG] at hq
      intro σ' H' r'
      obtain ⟨P1, as, bs, g, _⟩ := r'
      exact hq .non H' ⟨P1, [], g, .non, .nil, fun _ z => nomatch z⟩
    | ret d => rw [hG] at hq; exact hq
    | exc c n ρ =>
      rw [hG] at hq
      intro cls d σ' H' r' x'
      obtain ⟨P1, as, bs, g, _⟩ := r'
      exact hq cls d H' g.same x'
    | _ => rw [hG] at hq; exact hq.elim
  · have fin : ∀ {σ' : St} {H' : Hp} {v : V} {u : Value}, Inv (cxOf (L2.CX P w) P w K mg base N qual (defScope st) f cdv A outer s H E) [] σ' H' s' → RelV v u → Q v H' → CE outer P w H s Q u s' :=
      fun {σ' H' v u} J rv q => ⟨v, H', J.os, J.bare, J.base, J.hok, rv, q⟩
    cases fl with
    | ret u =>
      obtain ⟨v, σ', H', J, rv, q⟩ := hs
      exact fin J rv q
    | next =>
      obtain ⟨σ', H', J, q⟩ := hs
      exact fin (v := V.non) (u := Value.none) J rfl q
    | brk =>
      obtain ⟨_, _, _, q⟩ := hs
      exact False.elim q
    | cont =>
      obtain ⟨_, _, _, q⟩ := hs
      exact False.elim q
/-- .. an empty except for its last level -/
theorem FnG.mono {f : Addr} {fd : FuncData} {ps : List Str} {sp : Sp} {j k : Nat} (F : FnG P w K mg base j f fd ps sp) (h : j ≤ k) : FnG P w K mg base k f fd ps sp :=
  ⟨F.len, fun A outer s H args us vs Q E hr => F.run A outer s H args us vs Q E ⟨hr.rm.mono h, hr.gd⟩⟩
end
end DL

set_option Elab.async false
set_option linter.all false
set_option maxRecDepth 100000
namespace DL
open PySem PySem.Spec L2
open PyProof.Rows hiding St

mutual
def Tg.slots : Tg → List Nat
  | .nm i => [i]
  | .tp l => tgSlots l
  | .sub i _ => [i]
def tgSlots : List Tg → List Nat
  | [] => []
  | t :: l => t.slots ++ tgSlots l
end
mutual
theorem Tg.put_len : ∀ {t : Tg} {d : D} {ρ ρ' : Env}, t.put d ρ = some ρ' → ρ'.length = ρ.length
  | .nm i, d, ρ, ρ', h => by simp only [Tg.put, Option.some.injEq] at h; subst h; simp
  | .tp l, .tup ds, ρ, ρ', h => by simp only [Tg.put] at h; exact tgPuts_lenE h
  | .sub i es, d, ρ, ρ', h => by
    simp only [Tg.put] at h
    split at h
    · rename_i ks d0 h1 h2
      cases e : setP d0 ks d with
      | none => rw [e] at h; cases h
      | some d1 => rw [e] at h; cases h; simp
    · cases h
  | .tp l, .non, ρ, ρ', h => by simp [Tg.put] at h
  | .tp l, .bl _, ρ, ρ', h => by simp [Tg.put] at h
  | .tp l, .int _, ρ, ρ', h => by simp [Tg.put] at h
  | .tp l, .str _, ρ, ρ', h => by simp [Tg.put] at h
  | .tp l, .lst _ ds, ρ, ρ', h => by simp only [Tg.put] at h; exact tgPuts_lenE h
  | .tp l, .dic _ _, ρ, ρ', h => by simp [Tg.put] at h
  | .tp l, .set _, ρ, ρ', h => by simp [Tg.put] at h
  | .tp l, .scr _, ρ, ρ', h => by simp [Tg.put] at h
  | .tp l, .pin _ _ _, ρ, ρ', h => by simp [Tg.put] at h
theorem tgPuts_lenE : ∀ {l : List Tg} {ds : List D} {ρ ρ' : Env}, tgPuts l ds ρ = some ρ' → ρ'.length = ρ.length
  | [], [], ρ, ρ', h => by simp only [tgPuts, Option.some.injEq] at h; subst h; rfl
  | [], _ :: _, ρ, ρ', h => by simp [tgPuts] at h
  | _ :: _, [], ρ, ρ', h => by simp [tgPuts] at h
  | t :: l, d :: ds, ρ, ρ', h => by
    simp only [tgPuts] at h
    cases ht : t.put d ρ with
    | none => rw [ht] at h; cases h
    | some ρ1 => rw [ht] at h; rw [tgPuts_lenE h, Tg.put_len ht]
end
def wipeE (ρ : Env) : List Nat → Env
  | [] => ρ
  | i :: l => wipeE (ρ.set i none) l
theorem wipeE_length : ∀ (l : List Nat) (ρ : Env), (wipeE ρ l).length = ρ.length
  | [], _ => rfl
  | i :: l, ρ => by rw [wipeE, wipeE_length l, List.length_set]
theorem wipeE_some : ∀ {l : List Nat} {ρ : Env} {i : Nat} {d : D}, (wipeE ρ l)[i]? = some (some d) → ρ[i]? = some (some d) ∧ i ∉ l
  | [], _, _, _, h => ⟨h, fun z => nomatch z⟩
  | j :: l, ρ, i, d, h => by
    obtain ⟨a, b⟩ := wipeE_some (l := l) h
    by_cases e : j = i
    · subst e
      by_cases hl : j < ρ.length
      · rw [List.getElem?_set_self hl] at a; cases a
      · rw [List.getElem?_eq_none (by rw [List.length_set]; omega)] at a; cases a
    · rw [List.getElem?_set_ne e] at a
      exact ⟨a, fun z => (List.mem_cons.mp z).elim (fun z => e z.symm) b⟩
theorem wipe_in : ∀ {vs : List Nat} {σ : St} {i n : Nat}, i ∈ vs → σ.length = n → (wipe σ vs)[i]? = if i < n then some none else none
  | j :: vs, σ, i, n, h, hn => by
    subst hn
    show ((wipe σ vs).set j none)[i]? = _
    have hl := wipe_length σ vs
    by_cases hj : j = i
    · subst hj
      by_cases hlt : j < σ.length
      · rw [List.getElem?_set_self (by rw [hl]; exact hlt), if_pos hlt]
      · rw [List.getElem?_eq_none (by rw [List.length_set, hl]; omega), if_neg hlt]
    · rw [List.getElem?_set_ne hj]
      exact wipe_in ((List.mem_cons.mp h).elim (fun z => absurd z.symm hj) id) rfl
theorem wipe_keep : ∀ {vs : List Nat} {σ : St} {i : Nat}, i ∉ vs → (wipe σ vs)[i]? = σ[i]? := fun {vs σ i} h => wipe_out h

section
variable {K : PySem.W.Frag} {w : World} {P : Addr → Prop} {H : Hp} {rd : List Nat} {ρ : Env} {σ : St}
theorem View.wipe (h : View K w P H rd ρ σ) (own : List Nat) : View K w P H rd (wipeE ρ own) (L2.wipe σ own) :=
  ⟨h.fz, by rw [wipeE_length, wipe_length]; exact h.len, fun i hi d hd => by
    obtain ⟨a, b⟩ := wipeE_some hd
    obtain ⟨v, x, y⟩ := h.get i hi d a
    exact ⟨v, by rw [wipe_keep b]; exact x, y⟩⟩
theorem View.put1 (h : View K w P H rd ρ σ) {d : D} {v : V} (r : Rep K w P H d v []) (i : Nat) : View K w P H (i :: rd) (ρ.set i (some d)) (σ.set i (some v)) :=
  ⟨h.fz, by rw [List.length_set, List.length_set]; exact h.len, fun j hj d' hd => by
    by_cases e : i = j
    · subst e
      by_cases hl : i < ρ.length
      · rw [List.getElem?_set_self hl] at hd
        cases hd
        exact ⟨v, by rw [List.getElem?_set_self (by rw [← h.len]; exact hl)], r.fz (fun _ z => z) (fun _ z => nomatch z)⟩
      · rw [List.getElem?_eq_none (by rw [List.length_set]; omega)] at hd; cases hd
    · rw [List.getElem?_set_ne e] at hd ⊢
      exact h.get j ((List.mem_cons.mp hj).elim (fun z => absurd z.symm e) id) d' hd⟩
/-- more is frozen -/
theorem View.grow {P' : Addr → Prop} {H' : Hp} {as : List Addr} (h : View K w P H rd ρ σ) (g : Grow P P' as H H') (th : ∀ a ∈ as, ∃ o, H a = some o) : View K w P' H' rd ρ σ :=
  ⟨g.fz h.fz th, h.len, fun i hi d hd => by
    obtain ⟨v, a, b⟩ := h.get i hi d hd
    exact ⟨v, a, b.mono g.same g.le⟩⟩
end

/-- a target within a block: the slots that are read -/
def tGv (K : PySem.W.Frag) (w : World) (rd : List Nat) (t : Tg) : TG := fun v σ H Q => ∃ ρ P d, View K w P H rd ρ σ ∧ Rep K w P H d v [] ∧ match t.put d ρ with
  | some ρ' => ∀ σ', (∀ j, j ∉ t.slots → σ'[j]? = σ[j]?) → View K w P H (t.slots ++ rd) ρ' σ' → Q σ' H
  | none => False
def tGvs (K : PySem.W.Frag) (w : World) (rd : List Nat) (l : List Tg) : TGs := fun vs σ H Q => ∃ ρ P ds, View K w P H rd ρ σ ∧ Reps K w P H ds vs [] ∧ match tgPuts l ds ρ with
  | some ρ' => ∀ σ', (∀ j, j ∉ tgSlots l → σ'[j]? = σ[j]?) → View K w P H (tgSlots l ++ rd) ρ' σ' → Q σ' H
  | none => False
abbrev DGv (X : Cx) (e : Expr) (rd : List Nat) (t : Tg) : Prop := PG X e (tGv X.K X.w rd t)
abbrev DGvs (X : Cx) (e : List Expr) (rd : List Nat) (t : List Tg) : Prop := PGs X e (tGvs X.K X.w rd t)
theorem View.sub {K : PySem.W.Frag} {w : World} {P : Addr → Prop} {H : Hp} {rd rd' : List Nat} {ρ : Env} {σ : St} (h : View K w P H rd ρ σ) (s : ∀ i ∈ rd', i ∈ rd) : View K w P H rd' ρ σ := h.mono (.refl _) s
theorem tgPuts_len : ∀ (l : List Tg) (ds : List D) (ρ ρ' : Env), tgPuts l ds ρ = some ρ' → ds.length = l.length := by
  intro l
  induction l with
  | nil => intro ds ρ ρ' h; cases ds with
    | nil => rfl
    | cons _ _ => simp [tgPuts] at h
  | cons t l ih => intro ds ρ ρ' h; cases ds with
    | nil => simp [tgPuts] at h
    | cons d ds =>
      simp only [tgPuts] at h
      split at h
      · simp [ih ds _ _ h]
      · cases h
theorem Reps.nil_split {K : PySem.W.Frag} {w : World} {P : Addr → Prop} {H : Hp} {d : D} {ds : List D} {v : V} {vs : List V} (h : Reps K w P H (d :: ds) (v :: vs) []) : Rep K w P H d v [] ∧ Reps K w P H ds vs [] := by
  obtain ⟨b1, b2, e, r1, r2⟩ := Reps.split (xs := [d]) (us := [v]) rfl h
  obtain ⟨rfl, rfl⟩ := List.append_eq_nil_iff.mp e.symm
  generalize hb : ([] : List Addr) = b at r1
  cases r1 with
  | cons a c =>
    cases c
    rw [List.append_nil] at hb
    subst hb
    exact ⟨a, r2⟩
section
variable {X : Cx} {e : Expr} {es : List Expr} {rd : List Nat} {pos : Pos}
theorem dgv_nm {i : Nat} (h : PG X e (gName i)) : DGv X e rd (.nm i) := PGi h fun v σ H Q ⟨ρ, P, d, vw, r, q⟩ => by
  simp only [Tg.put] at q
  refine q _ (fun j hj => ?_) (vw.put1 r i)
  rw [List.getElem?_set_ne (fun z => hj (by rw [z]; simp [Tg.slots]))]
theorem dgvs_nil : DGvs X [] rd [] := PGsi pgs_nil fun vs σ H Q ⟨ρ, P, ds, vw, r, q⟩ => by
  cases ds with
  | nil =>
    cases r
    simp only [tgPuts] at q
    exact ⟨rfl, q σ (fun _ _ => rfl) vw⟩
  | cons _ _ => simp only [tgPuts] at q
theorem dgvs_cons {t : Tg} {l : List Tg} (h1 : DGv X e rd t) (h2 : DGvs X es (t.slots ++ rd) l) (hs : (assignEach (e :: es) X.env).map (·.2) = assign e X.env :: (assignEach es X.env).map (·.2) := by rfl) : DGvs X (e :: es) rd (t :: l) :=
  PGsi (pgs_cons h1 h2 hs) fun vs σ H Q ⟨ρ, P, ds, vw, r, q⟩ => by
    cases ds with
    | nil => simp only [tgPuts] at q
    | cons d ds =>
      cases vs with
      | nil => have := r.length; simp at this
      | cons v vs =>
        obtain ⟨r1, r2⟩ := r.nil_split
        refine ⟨v, vs, rfl, ρ, P, d, vw, r1, ?_⟩
        simp only [tgPuts] at q
        cases ht : t.put d ρ with
        | none => simp only [ht] at q
        | some ρ' =>
          simp only [ht] at q ⊢
          intro σ1 k1 vw1
          refine ⟨ρ', P, ds, vw1, r2, ?_⟩
          cases hl : tgPuts l ds ρ' with
          | none => simp only [hl] at q
          | some ρ2 =>
            simp only [hl] at q ⊢
            intro σ2 k2 vw2
            refine q σ2 (fun j hj => ?_) (vw2.sub fun i hi => ?_)
            · simp only [tgSlots, List.mem_append, not_or] at hj
              rw [k2 j hj.2, k1 j hj.1]
            · simp only [tgSlots, List.mem_append] at hi ⊢
              rcases hi with (z | z) | z
              · exact .inr (.inl z)
              · exact .inl z
              · exact .inr (.inr z)
theorem dgv_tup {k n : Nat} {l : List Tg} (hc : X.calm = true) (h : DGvs X es rd l) (hn : (assignEach es X.env).length = n := by rfl) (hl : l.length = n := by rfl) (hst : (assignEach es X.env).findIdx? (·.1) = none := by rfl) : DGv X (.Tuple es k pos) rd (.tp l) :=
  PGi (PG.or' (pg_tup hc h hn hst) (pg_lst hc h hn hst)) fun v σ H Q ⟨ρ, P, d, vw, r, q⟩ => by
    cases d with
    | tup ds =>
      cases r with
      | @tup adr vs1 _ _ ha ra =>
        simp only [Tg.put] at q
        cases hp : tgPuts l ds ρ with
        | none => simp only [hp] at q
        | some ρ' =>
          have hlen := tgPuts_len l ds ρ ρ' hp
          have ln := ra.length
          simp only [hp] at q
          refine .inl ⟨adr, vs1, rfl, .of ha, by omega, ρ, P, ds, vw, ra, ?_⟩
          rw [hp]
          exact q
    | lst o ds =>
      cases r with
      | @lstF adr vs1 _ ha ra =>
        simp only [Tg.put] at q
        cases hp : tgPuts l ds ρ with
        | none => simp only [hp] at q
        | some ρ' =>
          have hlen := tgPuts_len l ds ρ ρ' hp
          have ln := ra.length
          simp only [hp] at q
          refine .inr ⟨adr, vs1, rfl, ha.sql, by omega, ρ, P, ds, vw, ra, ?_⟩
          rw [hp]
          exact q
    | _ => simp only [Tg.put] at q
end

def lcL (t : Tg) (c f : Ev) (ρ : Env) : List D → LR
  | [] => .vals []
  | x :: xs => match t.put x ρ with
    | none => .stuck
    | some ρ1 => match c ρ1 with
      | .val (.bl true) => (match f ρ1 with
        | .val d => (match lcL t c f ρ xs with
          | .vals ds => .vals (d :: ds)
          | _ => .stuck)
        | _ => .stuck)
      | .val (.bl false) => lcL t c f ρ xs
      | _ => .stuck
/-- [f for t in .. if c]; own: the slots of the comprehension's names -/
def eLc (l : Lv) (gi : List D → Option (List D)) (t : Tg) (own : List Nat) (c f : Ev) : Ev := fun ρ => match l ρ with
  | .vals ds => (match gi ds with
    | some xs => (match lcL t c f (wipeE ρ own) (fzs xs) with
      | .vals rs => if rs.length ≤ sizeLine then .val (.lst true rs) else .stuck
      | _ => .stuck)
    | none => .stuck)
  | .exc c n => .exc c n
  | .stuck => .stuck
def cYes : Ev := fun _ => .val (.bl true)
abbrev W0 : WX := fun _ _ _ _ => False
theorem tYes_of {L : Lt} {σ : St} {H : Hp} {Q : Bool → Hp → Prop} (h : tT L [] cYes σ H Q) : tYes σ H Q := by
  obtain ⟨ρ, P, vw, q⟩ := h
  exact q H (.refl _)
theorem PTsi {X : Cx} {e : List Expr} {t t' : TT} (h : PTs X e t) (i : ∀ σ H Q, t' σ H Q → t σ H Q) : PTs X e t' := ⟨fun pins s σ H Q I q => h.run pins s σ H Q I (i σ H Q q)⟩
abbrev DTs (X : Cx) (W : WX) (es : List Expr) (rd : List Nat) (f : Ev) : Prop := PTs X es (tT (lt X W) rd f)
theorem dts_nil {X : Cx} {W : WX} : DTs X W [] [] cYes := PTsi pts_nil fun σ H Q h => tYes_of h
theorem dts_one {X : Cx} {W : WX} {c : Expr} {rd : List Nat} {f : Ev} (h : DT X W c rd f) : DTs X W [c] rd f := pts_one h

theorem lcL_drop {t : Tg} {c f : Ev} {ρ : Env} {xs : List D} {i : Nat} {x : D} (h : xs[i]? = some x) : lcL t c f ρ (xs.drop i) = lcL t c f ρ (x :: xs.drop (i + 1)) := by
  rw [List.drop_eq_getElem_cons (List.getElem?_eq_some_iff.mp h).1, (List.getElem?_eq_some_iff.mp h).2]
theorem lc_of {L : Lt} {rdi rdc rdf : List Nat} {l : Lv} {gi : List D → Option (List D)} {t : Tg} {own : List Nat} {c f : Ev} (hown : ∀ i ∈ t.slots, i ∈ own) {σ : St} {H : Hp} {Q : VK}
    (h : tE L (rdi ++ (rdc ++ rdf)) (eLc l gi t own c f) σ H Q) :
    tLc (tI L rdi l gi) (tGv L.K L.w (rdc ++ rdf) t) (tT ⟨L.K, L.w, L.mg, W0⟩ rdc c) (tE ⟨L.K, L.w, L.mg, W0⟩ rdf f) own σ H Q := by
  obtain ⟨ρ, P, vw, q⟩ := h
  refine ⟨ρ, P, vw.left, ?_⟩
  unfold eLc at q
  cases hl : l ρ with
  | exc c n => rw [hl] at q; exact q
  | stuck => rw [hl] at q; exact q
  | vals ds =>
    rw [hl] at q
    cases hx : gi ds with
    | none => simp only [hx] at q
    | some xs =>
      simp only [hx] at q ⊢
      cases hL : lcL t c f (wipeE ρ own) (fzs xs) with
      | exc c n => simp only [hL] at q
      | stuck => simp only [hL] at q
      | vals rs =>
        simp only [hL] at q
        by_cases hz : rs.length ≤ sizeLine
        · simp only [hz, if_true] at q
          intro J fvs gd gv H1 o gh ok Dd hD
          obtain ⟨P1, a1, g1, rr1, ow1, n1⟩ := o
          have th1 : ∀ a ∈ a1, ∃ o, H1 a = some o := fun a z => (rr1.there a z).some
          have fz1 : Fz P1 H1 := g1.fz vw.fz (fun _ z => nomatch z)
          -- what the source holds is frozen too
          have rrf : Reps L.K L.w (fun a => P1 a ∨ a ∈ a1) H1 (fzs ds) fvs [] := rr1.fz (fun _ z => .inl z) (fun _ z => .inr z)
          have gi1 : Grow P (fun a => P1 a ∨ a ∈ a1) [] H H1 := ⟨g1.same, fun a z => .inl (g1.le a z), fun a z => z.elim (g1.new a) fun z => .inr (.inr ⟨(n1 a z).elim (fun z => nomatch z) id, th1 a z⟩)⟩
          generalize hPi : (fun a => P1 a ∨ a ∈ a1) = Pi at rrf gi1
          have fzi : Fz Pi H1 := gi1.fz vw.fz (fun _ z => nomatch z)
          have vwi : View L.K L.w Pi H1 (rdc ++ rdf) (wipeE ρ own) (L2.wipe σ own) := (vw.right.grow gi1 (fun _ z => nomatch z)).wipe own
          have npD : ¬ Pi Dd := fun z => by obtain ⟨o, ho⟩ := fzi Dd z; rw [hD] at ho; cases ho
          have e0 : Same H1 (upd H1 Dd (.lst [])) := same_new hD
          -- the invariant
          refine ⟨fun i m H2 => m = (fzs xs).length - i ∧ i ≤ (fzs xs).length ∧ Same H1 H2 ∧ ∃ acc vs P' as rest, H2 Dd = some (.lst vs) ∧ (∀ a, Pi a → P' a) ∧ (∀ a, P' a → Pi a ∨ (H1 a = none ∧ ∃ o, H2 a = some o)) ∧ ¬ P' Dd ∧ Dd ∉ as ∧
            Reps L.K L.w P' H2 acc vs as ∧ Own P' as ∧ (∀ a ∈ as, H1 a = none) ∧ lcL t c f (wipeE ρ own) ((fzs xs).drop i) = .vals rest ∧ acc ++ rest = rs, ⟨_, rfl, Nat.zero_le _, e0, [], [], Pi, [], rs, upd_same, fun _ z => z, fun _ z => .inl z, npD, (fun z => nomatch z), .nil, .nil, (fun _ z => nomatch z), by simpa using hL, rfl⟩, ?_⟩
          rintro i m H2 ⟨rfl, hi, e2, acc, vs, P', as, rest, hDv, p1, p2, npD', nDa, racc, ow, fra, hrest, hall⟩
          have lx : (fzs xs).length = xs.length := by rw [fzs_eq, List.length_map]
          have fz' : Fz P' H2 := fun a z => (p2 a z).elim (fun z => by obtain ⟨o, h⟩ := fzi a z; exact ⟨o, e2 _ _ h⟩) fun z => z.2
          have okz := ok P' H2 fz' ((gh Pi rrf).mono e2 p1) i
          by_cases hlt : i < xs.length
          · obtain ⟨x, hx'⟩ : ∃ x, xs[i]? = some x := ⟨xs[i], List.getElem?_eq_getElem hlt⟩
            rw [lcL_drop (fzs_get hx')] at hrest
            unfold lcL at hrest
            cases ht : t.put x.fz (wipeE ρ own) with
            | none => simp only [ht] at hrest; cases hrest
            | some ρ1 =>
            simp only [ht] at hrest
            refine .inr ⟨(okz.1 x hx').1, fun H5 => Same H1 H5 ∧ ∃ acc vs P' as rest, H5 Dd = some (.lst vs) ∧ (∀ a, Pi a → P' a) ∧ (∀ a, P' a → Pi a ∨ (H1 a = none ∧ ∃ o, H5 a = some o)) ∧ ¬ P' Dd ∧ Dd ∉ as ∧
              Reps L.K L.w P' H5 acc vs as ∧ Own P' as ∧ (∀ a ∈ as, H1 a = none) ∧ lcL t c f (wipeE ρ own) ((fzs xs).drop (i + 1)) = .vals rest ∧ acc ++ rest = rs, fun H5 z => ⟨_, by rw [lx]; omega, rfl, by rw [lx]; omega, z⟩, fun v H3 y => ?_⟩
            obtain ⟨P3, a3, g3, r3, o3, n3⟩ := (okz.1 x hx').2 v H3 y
            have ea3 : a3 = [] := Rep.fz_nil (d := x) r3
            subst ea3
            have vw3 : View L.K L.w P3 H3 (rdc ++ rdf) (wipeE ρ own) (L2.wipe σ own) :=
              ⟨g3.fz fz' (fun _ z => nomatch z), vwi.len, fun i hi d hd => by
                obtain ⟨v, a, b⟩ := vwi.get i hi d hd
                exact ⟨v, a, b.mono (e2.trans g3.same) fun a z => g3.le a (p1 a z)⟩⟩
            refine ⟨wipeE ρ own, P3, x.fz, vw3, r3, ?_⟩
            rw [ht]
            intro σ2 kσ vwσ
            have new3 : ∀ a, P3 a → P' a ∨ (H2 a = none ∧ ∃ o, H3 a = some o) := fun a z => (g3.new a z).elim .inl fun z => z.elim (fun z => nomatch z) .inr
            refine ⟨?_, ρ1, P3, vwσ.sub (fun i hi => List.mem_append_right _ (List.mem_append_left _ hi)), ?_⟩
            · -- only the comprehension's own names changed
              apply List.ext_getElem?
              intro j
              by_cases hj : j ∈ own
              · rw [wipe_in hj (by rw [← vwσ.len, Tg.put_len ht, wipeE_length, vw.len]), wipe_in hj rfl]
              · rw [wipe_keep hj, kσ j (fun z => hj (hown j z)), wipe_keep hj]
            · cases hc : c ρ1 with
              | val dc =>
                cases dc with
                | bl b =>
                  simp only [hc] at hrest
                  intro H4 e4
                  cases b with
                  | false =>
                    simp only [Bool.false_eq_true, if_false]
                    simp only at hrest
                    refine ⟨e2.trans (g3.same.trans e4), acc, vs, P', as, rest, e4 _ _ (g3.same _ _ hDv), p1, fun a z => (p2 a z).elim .inl fun ⟨z, o, y⟩ => .inr ⟨z, o, e4 _ _ (g3.same _ _ y)⟩, npD', nDa, racc.mono (g3.same.trans e4) fun _ z => z, ow, fra, hrest, hall⟩
                  | true =>
                    simp only [if_true]
                    cases hf : f ρ1 with
                    | val d =>
                      simp only [hf] at hrest
                      cases hr2 : lcL t c f (wipeE ρ own) ((fzs xs).drop (i + 1)) with
                      | vals rest2 =>
                        simp only [hr2] at hrest
                        cases hrest
                        refine ⟨ρ1, P3, (vwσ.sub (fun i hi => List.mem_append_right _ (List.mem_append_right _ hi))).same e4, ?_⟩
                        rw [hf]
                        rintro yv H5 ⟨P5, a5, g5, r5, o5, n5⟩
                        have fr5 : ∀ a ∈ a5, H4 a = none := fun a z => (n5 a z).elim (fun z => nomatch z) id
                        have e25 : Same H2 H5 := g3.same.trans (e4.trans g5.same)
                        have hD5 : H5 Dd = some (.lst vs) := e25 _ _ hDv
                        have new5 : ∀ a, P5 a → P' a ∨ (H2 a = none ∧ ∃ o, H5 a = some o) := fun a z => by
                          rcases g5.new a z with z | z | ⟨z, o, y⟩
                          · rcases new3 a z with z | ⟨z, o, y⟩
                            · exact .inl z
                            · exact .inr ⟨z, o, g5.same _ _ (e4 _ _ y)⟩
                          · cases z
                          · exact .inr ⟨g3.same.free (e4.free z), o, y⟩
                        have le5 : ∀ a, P' a → P5 a := fun a z => g5.le a (g3.le a z)
                        have np5 : ∀ a, (∃ o, H2 a = some o) → ¬ P' a → ¬ P5 a := fun a ⟨o, h⟩ n z => (new5 a z).elim n fun ⟨z, _⟩ => by rw [h] at z; cases z
                        have npD5 : ¬ P5 Dd := np5 Dd ⟨_, hDv⟩ npD'
                        have nD5 : Dd ∉ a5 := fun z => by have := fr5 Dd z; rw [e4 _ _ (g3.same _ _ hDv)] at this; cases this
                        have st5 : ∀ a ∈ as, ∃ o, H2 a = some o := fun a z => (racc.there a z).some
                        have wr : Wr P5 H5 Dd := ⟨.inl ⟨_, hD5⟩, npD5⟩
                        have lnv := racc.length
                        refine ⟨vs, hD5, ?_, ?_⟩
                        · have : rs.length = acc.length + (rest2.length + 1) := by rw [← hall]; simp
                          omega
                        refine ⟨fun a o ho => ?_, acc ++ [d], vs ++ [yv], P5, as ++ a5, rest2, upd_same, fun a z => le5 a (p1 a z), fun a z => ?_, npD5, fun z => (List.mem_append.mp z).elim nDa nD5, ?_, ⟨?_, fun a z => ?_⟩, fun a z => ?_, rfl, by rw [← hall]; simp⟩
                        · rw [upd_ne (ne_of_none ho hD)]
                          exact e25 _ _ (e2 _ _ ho)
                        · have : Pi a ∨ (H1 a = none ∧ ∃ o, H5 a = some o) := by
                            rcases new5 a z with z | ⟨z, y⟩
                            · rcases p2 a z with z | ⟨z, o, y⟩
                              · exact .inl z
                              · exact .inr ⟨z, o, e25 _ _ y⟩
                            · exact .inr ⟨e2.free z, y⟩
                          rcases this with z | ⟨z, o, y⟩
                          · exact .inl z
                          · by_cases hDa : a = Dd
                            · subst hDa; exact .inr ⟨z, _, upd_same⟩
                            · exact .inr ⟨z, o, by rw [upd_ne hDa]; exact y⟩
                        · exact ((racc.mono e25 le5).upd wr nDa).append (by have := Reps.cons (r5.upd (o := .lst (vs ++ [yv])) wr nD5) .nil; rw [List.append_nil] at this; exact this)
                        · exact List.nodup_append.mpr ⟨ow.nd, o5.nd, fun x hx y hy e => by
                            subst e
                            obtain ⟨o, ho⟩ := st5 x hx
                            have := fr5 x hy
                            rw [e4 _ _ (g3.same _ _ ho)] at this
                            cases this⟩
                        · rcases List.mem_append.mp z with z | z
                          · exact np5 a (st5 a z) (ow.np a z)
                          · exact o5.np a z
                        · rcases List.mem_append.mp z with z | z
                          · exact fra a z
                          · exact e2.free (g3.same.free (e4.free (fr5 a z)))
                      | exc c n => simp only [hr2] at hrest; cases hrest
                      | stuck => simp only [hr2] at hrest; cases hrest
                    | exc c n => simp only [hf] at hrest; cases hrest
                    | stuck => simp only [hf] at hrest; cases hrest
                | _ => simp only [hc] at hrest; cases hrest
              | exc c n => simp only [hc] at hrest; cases hrest
              | stuck => simp only [hc] at hrest; cases hrest
          · have hdr : (fzs xs).drop i = [] := List.drop_eq_nil_iff.mpr (by rw [lx]; omega)
            rw [hdr] at hrest
            unfold lcL at hrest
            cases hrest
            rw [List.append_nil] at hall
            subst hall
            refine .inl ⟨okz.2 (by omega), q _ _ ⟨P', Dd :: as, ⟨g1.same.trans e2, fun a z => p1 a (gi1.le a z), fun a z => ?_⟩, .lstO hDv racc, ⟨List.nodup_cons.mpr ⟨nDa, ow.nd⟩, fun a z => ?_⟩, fun a z => .inr ?_⟩⟩
            · rcases p2 a z with z | ⟨z, o, y⟩
              · rcases gi1.new a z with z | z | ⟨z, o, y⟩
                · exact .inl z
                · cases z
                · exact .inr (.inr ⟨z, o, e2 _ _ y⟩)
              · exact .inr (.inr ⟨g1.same.free z, o, y⟩)
            · rcases List.mem_cons.mp z with rfl | z
              · exact npD'
              · exact ow.np a z
            · rcases List.mem_cons.mp z with rfl | z
              · exact g1.same.free hD
              · exact g1.same.free (fra a z)
        · simp only [hz, if_false] at q
end DL

set_option Elab.async false
set_option linter.all false
set_option maxRecDepth 100000
namespace DL
open PySem PySem.Spec L2
open PyProof.Rows hiding St

section
variable {K : PySem.W.Frag} {w : World} {P : Addr → Prop} {H : Hp}
theorem Reps.cons_inv {d : D} {ds : List D} {vs : List V} {as : List Addr} (h : Reps K w P H (d :: ds) vs as) : ∃ v us a1 a2, vs = v :: us ∧ as = a1 ++ a2 ∧ Rep K w P H d v a1 ∧ Reps K w P H ds us a2 := by
  cases h with
  | cons a b => exact ⟨_, _, _, _, rfl, rfl, a, b⟩
theorem Reps.one {d : D} {v : V} {as : List Addr} (h : Reps K w P H [d] [v] as) : Rep K w P H d v as := by
  obtain ⟨v', us, a1, a2, e, rfl, r1, r2⟩ := h.cons_inv
  cases e
  cases r2
  rw [List.append_nil]
  exact r1
theorem Reps.two {d e : D} {v u : V} {as : List Addr} (h : Reps K w P H [d, e] [v, u] as) : ∃ a1 a2, as = a1 ++ a2 ∧ Rep K w P H d v a1 ∧ Rep K w P H e u a2 := by
  obtain ⟨v', us, a1, a2, e, rfl, r1, r2⟩ := h.cons_inv
  cases e
  exact ⟨a1, a2, rfl, r1, r2.one⟩
theorem Reps.three {d e f : D} {v u x : V} {as : List Addr} (h : Reps K w P H [d, e, f] [v, u, x] as) : ∃ a1 a2 a3, as = a1 ++ (a2 ++ a3) ∧ Rep K w P H d v a1 ∧ Rep K w P H e u a2 ∧ Rep K w P H f x a3 := by
  obtain ⟨v', us, a1, a2, e, rfl, r1, r2⟩ := h.cons_inv
  cases e
  obtain ⟨a3, a4, rfl, r3, r4⟩ := r2.two
  exact ⟨a1, a3, a4, rfl, r1, r3, r4⟩
theorem Reps.get : ∀ {ds : List D} {vs : List V} {as : List Addr}, Reps K w P H ds vs as → ∀ {i : Nat} {d : D}, ds[i]? = some d → ∃ v bs, vs[i]? = some v ∧ Rep K w P H d v bs ∧ bs.Sublist as
  | _, _, _, .nil, i, d, h => by simp at h
  | _, _, _, .cons a b, 0, d, h => by
    simp at h
    subst h
    exact ⟨_, _, rfl, a, List.sublist_append_left _ _⟩
  | _, _, _, .cons a b, i + 1, d, h => by
    obtain ⟨v, bs, x, y, z⟩ := b.get (i := i) (by simpa using h)
    exact ⟨v, bs, by simpa using x, y, z.trans (List.sublist_append_right _ _)⟩
theorem Reps.drop : ∀ (n : Nat) {ds : List D} {vs : List V} {as : List Addr}, Reps K w P H ds vs as → ∃ bs, Reps K w P H (ds.drop n) (vs.drop n) bs ∧ bs.Sublist as
  | 0, _, _, as, h => ⟨as, h, List.Sublist.refl _⟩
  | n + 1, _, _, _, .nil => ⟨[], .nil, List.Sublist.refl _⟩
  | n + 1, _, _, _, .cons a b => by
    obtain ⟨bs, x, y⟩ := b.drop n
    exact ⟨bs, x, y.trans (List.sublist_append_right _ _)⟩
theorem Reps.take : ∀ (n : Nat) {ds : List D} {vs : List V} {as : List Addr}, Reps K w P H ds vs as → ∃ bs, Reps K w P H (ds.take n) (vs.take n) bs ∧ bs.Sublist as
  | 0, _, _, as, h => ⟨[], .nil, List.nil_sublist _⟩
  | n + 1, _, _, _, .nil => ⟨[], .nil, List.Sublist.refl _⟩
  | n + 1, _, _, _, .cons (as := a1) a b => by
    obtain ⟨bs, x, y⟩ := b.take n
    exact ⟨a1 ++ bs, .cons a x, List.Sublist.append (List.Sublist.refl _) y⟩
theorem Rep.lst_inv {o : Bool} {xs : List D} {v : V} {as : List Addr} (h : Rep K w P H (.lst o xs) v as) : ∃ a vs bs, v = .ref a ∧ SqL K H a vs ∧ Reps K w P H xs vs bs ∧ bs.Sublist as := by
  cases h with
  | lstF a b => exact ⟨_, _, _, rfl, a.sql, b, List.Sublist.refl _⟩
  | lstO a b => exact ⟨_, _, _, rfl, .of a, b, List.sublist_cons_self _ _⟩
theorem Rep.tup_inv {xs : List D} {v : V} {as : List Addr} (h : Rep K w P H (.tup xs) v as) : ∃ a vs, v = .ref a ∧ H a = some (.tup vs) ∧ Reps K w P H xs vs as := by
  cases h with
  | tup a b => exact ⟨_, _, rfl, a, b⟩
theorem Own.sub {P : Addr → Prop} {as bs : List Addr} (o : Own P as) (s : bs.Sublist as) : Own P bs := ⟨o.nd.sublist s, fun a z => o.np a (s.subset z)⟩
/-- a part of what was given -/
theorem Out.part {as bs : List Addr} {r : D} {v : V} (o : Own P as) (s : bs.Sublist as) (h : Rep K w P H r v bs) : Out K w P as H H r v := ⟨P, bs, .refl, h, o.sub s, fun a z => .inl (s.subset z)⟩
theorem Out.weak {as bs : List Addr} {H' : Hp} {r : D} {v : V} (s : bs.Sublist as) (h : Out K w P bs H H' r v) : Out K w P as H H' r v := by
  obtain ⟨P', cs, g, rr, ow, n⟩ := h
  exact ⟨P', cs, ⟨g.same, g.le, fun a z => (g.new a z).elim .inl fun z => z.elim (fun z => .inr (.inl (s.subset z))) fun z => .inr (.inr z)⟩, rr, ow, fun a z => (n a z).elim (fun z => .inl (s.subset z)) .inr⟩
theorem Out.newT {as : List Addr} {ds : List D} {vs : List V} {p : Addr} (hp : H p = none) (rr : Reps K w P H ds vs as) (ow : Own P as) : Out K w P as H (upd H p (.tup vs)) (.tup ds) (.ref p) :=
  ⟨P, as, .of_same (same_new hp), .tup upd_same (rr.mono (same_new hp) fun _ z => z), ow, fun _ z => .inl z⟩
end

theorem OpRi {X : Cx} {f : Value → Value → Sem Value} {r r' : R2} (h : OpR X f r) (i : ∀ x y H Q, r' x y H Q → r x y H Q) : OpR X f r' := fun pins s σ H x y v u Q I rx ry q => h pins s σ H x y v u Q I rx ry (i x y H Q q)
theorem CallRi {X : Cx} {f : Value} {r r' : List V → Hp → VK → Prop} (h : CallR X f r) (i : ∀ xs H Q, r' xs H Q → r xs H Q) : CallR X f r' := fun pins s σ H xs us Q I rv q => h pins s σ H xs us Q I rv (i xs H Q q)
theorem UnRi {X : Cx} {f : Value → Sem Value} {r r' : V → Hp → VK → Prop} (h : UnR X f r) (i : ∀ x H Q, r' x H Q → r x H Q) : UnR X f r' := fun pins s σ H x v Q I rv q => h pins s σ H x v Q I rv (i x H Q q)
/-- what rD says of two values -/
theorem rD2 {K : PySem.W.Frag} {w : World} {g : List D → ER} {x y : V} {H : Hp} {Q : VK} (h : rD K w g [x, y] H Q) : ∃ P a1 a2 d e r, Fz P H ∧ Rep K w P H d x a1 ∧ Rep K w P H e y a2 ∧ Own P (a1 ++ a2) ∧ g [d, e] = .val r ∧ ∀ v H', Out K w P (a1 ++ a2) H H' r v → Q v H' := by
  obtain ⟨P, as, ds, r, fz, rr, ow, hg, q⟩ := h
  have ln := rr.length
  match ds, ln with
  | [d, e], _ =>
    obtain ⟨a1, a2, rfl, r1, r2⟩ := rr.two
    exact ⟨P, a1, a2, d, e, r, fz, r1, r2, ow, hg, q⟩
theorem rD1 {K : PySem.W.Frag} {w : World} {g : List D → ER} {x : V} {H : Hp} {Q : VK} (h : rD K w g [x] H Q) : ∃ P as d r, Fz P H ∧ Rep K w P H d x as ∧ Own P as ∧ g [d] = .val r ∧ ∀ v H', Out K w P as H H' r v → Q v H' := by
  obtain ⟨P, as, ds, r, fz, rr, ow, hg, q⟩ := h
  have ln := rr.length
  match ds, ln with
  | [d], _ => exact ⟨P, as, d, r, fz, rr.one, ow, hg, q⟩
theorem rD3 {K : PySem.W.Frag} {w : World} {g : List D → ER} {x y z : V} {H : Hp} {Q : VK} (h : rD K w g [x, y, z] H Q) : ∃ P a1 a2 a3 d e f r, Fz P H ∧ Rep K w P H d x a1 ∧ Rep K w P H e y a2 ∧ Rep K w P H f z a3 ∧ Own P (a1 ++ (a2 ++ a3)) ∧ g [d, e, f] = .val r ∧
    ∀ v H', Out K w P (a1 ++ (a2 ++ a3)) H H' r v → Q v H' := by
  obtain ⟨P, as, ds, r, fz, rr, ow, hg, q⟩ := h
  have ln := rr.length
  match ds, ln with
  | [d, e, f], _ =>
    obtain ⟨a1, a2, a3, rfl, r1, r2, r3⟩ := rr.three
    exact ⟨P, a1, a2, a3, d, e, f, r, fz, r1, r2, r3, ow, hg, q⟩
theorem Rep.int_eq {K : PySem.W.Frag} {w : World} {P : Addr → Prop} {H : Hp} {i : Int} {v : V} {as : List Addr} (h : Rep K w P H (.int i) v as) : v = .int i ∧ as = [] := by cases h; exact ⟨rfl, rfl⟩
theorem Rep.bl_eq {K : PySem.W.Frag} {w : World} {P : Addr → Prop} {H : Hp} {i : Bool} {v : V} {as : List Addr} (h : Rep K w P H (.bl i) v as) : v = .bl i ∧ as = [] := by cases h; exact ⟨rfl, rfl⟩
theorem Rep.str_eq {K : PySem.W.Frag} {w : World} {P : Addr → Prop} {H : Hp} {i : Str} {v : V} {as : List Addr} (h : Rep K w P H (.str i) v as) : v = .str i ∧ as = [] := by cases h; exact ⟨rfl, rfl⟩
theorem Out.int {K : PySem.W.Frag} {w : World} {P : Addr → Prop} {H : Hp} {as : List Addr} (i : Int) : Out K w P as H H (.int i) (.int i) := .plain (.refl _) (.int i)
theorem Out.bl {K : PySem.W.Frag} {w : World} {P : Addr → Prop} {H : Hp} {as : List Addr} (i : Bool) : Out K w P as H H (.bl i) (.bl i) := .plain (.refl _) (.bl i)
theorem Out.str {K : PySem.W.Frag} {w : World} {P : Addr → Prop} {H : Hp} {as : List Addr} (i : Str) : Out K w P as H H (.str i) (.str i) := .plain (.refl _) (.str i)

/-- two ints, under C -/
def gI2 (C : Int → Int → Prop) [∀ i j, Decidable (C i j)] (f : Int → Int → D) : List D → ER
  | [.int i, .int j] => if C i j then .val (f i j) else .stuck
  | _ => .stuck
theorem NoX.i2 {C : Int → Int → Prop} [∀ i j, Decidable (C i j)] {f : Int → Int → D} : NoX (gI2 C f) := fun ds c n h => by
  unfold gI2 at h
  split at h
  · split at h <;> cases h
  · cases h
def V.dat : V → D
  | .int i => .int i | .bl b => .bl b | .str x => .str x | _ => .non
theorem rD_i2 {K : PySem.W.Frag} {w : World} {C : Int → Int → Prop} [∀ i j, Decidable (C i j)] {f : Int → Int → D} {x y : V} {H : Hp} {Q : VK} (h : rD K w (gI2 C f) [x, y] H Q) :
    ∃ i j, x = .int i ∧ y = .int j ∧ C i j ∧ ∀ v, (∀ P, Rep K w P H (f i j) v []) → Q v H := by
  obtain ⟨P, a1, a2, d, e, r, fz, r1, r2, ow, hg, q⟩ := rD2 h
  unfold gI2 at hg
  split at hg
  · rename_i i j he
    injection he with e1 e2
    injection e2 with e2 _
    subst e1 e2
    split at hg
    · rename_i hc
      cases hg
      obtain ⟨rfl, rfl⟩ := r1.int_eq
      obtain ⟨rfl, rfl⟩ := r2.int_eq
      exact ⟨i, j, rfl, rfl, hc, fun v rv => q v H (.plain (.refl _) (rv P))⟩
    · cases hg
  · cases hg
section
variable {X : Cx}
theorem opI2 {f : Value → Value → Sem Value} {C C' : Int → Int → Prop} [∀ i j, Decidable (C i j)] {g : Int → Int → Int} (h : OpR X f (rI C' fun i j => .int (g i j))) (hc : ∀ i j, C i j → C' i j) : Op2 X f (gI2 C fun i j => .int (g i j)) :=
  OpRi h fun x y H Q q => by
    obtain ⟨i, j, e1, e2, c, k⟩ := rD_i2 q
    exact ⟨i, j, e1, e2, hc i j c, k _ fun P => .int _⟩
theorem opI20 {f : Value → Value → Sem Value} {g : Int → Int → Int} (h : OpR X f (rI0 fun i j => .int (g i j))) : Op2 X f (gI2 (fun _ _ => True) fun i j => .int (g i j)) :=
  OpRi h fun x y H Q q => by
    obtain ⟨i, j, e1, e2, c, k⟩ := rD_i2 q
    exact ⟨i, j, e1, e2, k _ fun P => .int _⟩
theorem opB20 {f : Value → Value → Sem Value} {g : Int → Int → Bool} (h : OpR X f (rI0 fun i j => .bl (g i j))) : Op2 X f (gI2 (fun _ _ => True) fun i j => .bl (g i j)) :=
  OpRi h fun x y H Q q => by
    obtain ⟨i, j, e1, e2, c, k⟩ := rD_i2 q
    exact ⟨i, j, e1, e2, k _ fun P => .bl _⟩
/-- what a product asks: the one is short, or both together are -/
def MulOk (i j : Int) : Prop := i.natAbs.log2 + j.natAbs.log2 < 1000000
instance (i j : Int) : Decidable (MulOk i j) := by unfold MulOk; infer_instance
def DivOk (_ j : Int) : Prop := j ≠ 0 ∧ j.natAbs.log2 < 9000
instance (i j : Int) : Decidable (DivOk i j) := by unfold DivOk; infer_instance
def ModOk (_ j : Int) : Prop := j ≠ 0
instance (i j : Int) : Decidable (ModOk i j) := by unfold ModOk; infer_instance
def PowOk (i j : Int) : Prop := 0 ≤ j ∧ j ≤ 1000000 ∧ i.natAbs < 2 ^ 64
instance (i j : Int) : Decidable (PowOk i j) := by unfold PowOk; infer_instance
def ShrOk (_ j : Int) : Prop := 0 ≤ j
instance (i j : Int) : Decidable (ShrOk i j) := by unfold ShrOk; infer_instance
def gSub := gI2 (fun _ _ => True) fun i j => .int (i - j)
def gMul := gI2 MulOk fun i j => .int (i * j)
def gDiv := gI2 DivOk fun i j => .int (i.fdiv j)
def gMod := gI2 ModOk fun i j => .int (i.fmod j)
def gPow := gI2 PowOk fun i j => .int (i ^ j.toNat)
def gShl := gI2 PowOk fun i j => .int (i * 2 ^ j.toNat)
def gShr := gI2 ShrOk fun i j => .int (i / 2 ^ j.toNat)
def gBand := gI2 (fun _ _ => True) fun i j => .int (Builtin.bitAnd i j)
theorem op_sub' : Op2 X (binaryOp .Sub) gSub := opI20 op_sub
theorem op_mul' : Op2 X (binaryOp .Mult) gMul := opI2 op_mulW fun _ _ h => h
theorem op_div' : Op2 X (binaryOp .FloorDiv) gDiv := opI2 (C' := DivOk) (opI fun _ _ _ _ _ _ _ hc q => floordiv_int hc.1 q (.inl (PyProof.noPylong_of_log2 hc.2))) fun _ _ h => h
theorem op_mod' : Op2 X (binaryOp .Mod) gMod := opI2 op_modN fun _ _ h => h
theorem op_pow' : Op2 X (binaryOp .Pow) gPow := opI2 op_pow fun _ _ h => h
theorem op_shl' : Op2 X (binaryOp .LShift) gShl := opI2 op_shl fun _ _ h => h
theorem op_shr' : Op2 X (binaryOp .RShift) gShr := opI2 op_shr fun _ _ h => h
theorem op_and' : Op2 X (binaryOp .BitAnd) gBand := opI20 op_and
def gLt := gI2 (fun _ _ => True) fun i j => .bl (decide (i < j))
def gLe := gI2 (fun _ _ => True) fun i j => .bl (decide (i ≤ j))
def gGt := gI2 (fun _ _ => True) fun i j => .bl (decide (j < i))
def gGe := gI2 (fun _ _ => True) fun i j => .bl (decide (j ≤ i))
theorem op_lt' : Op2 X (compareOp .Lt) gLt := opB20 op_lt
theorem op_le' : Op2 X (compareOp .LtE) gLe := opB20 op_le
theorem op_gt' : Op2 X (compareOp .Gt) gGt := opB20 op_gt
theorem op_ge' : Op2 X (compareOp .GtE) gGe := opB20 op_ge
def gNeg : List D → ER
  | [.int i] => .val (.int (-i))
  | _ => .stuck
theorem NoX.neg : NoX gNeg := fun ds c n h => by unfold gNeg at h; split at h <;> cases h
theorem un_neg' : Op1 X (unaryOp .USub) gNeg := UnRi un_neg fun x H Q q => by
  obtain ⟨P, as, d, r, fz, r1, ow, hg, k⟩ := rD1 q
  unfold gNeg at hg
  split at hg
  · rename_i i he
    cases he
    cases hg
    obtain ⟨rfl, rfl⟩ := r1.int_eq
    exact ⟨i, rfl, k _ H (.int _)⟩
  · cases hg

def gIsN : List D → ER
  | [.non, .non] => .val (.bl true)
  | [_, .non] => .val (.bl false)
  | _ => .stuck
def gNotN : List D → ER
  | [.non, .non] => .val (.bl false)
  | [_, .non] => .val (.bl true)
  | _ => .stuck
theorem NoX.isN : NoX gIsN := fun ds c n h => by unfold gIsN at h; split at h <;> cases h
theorem NoX.notN : NoX gNotN := fun ds c n h => by unfold gNotN at h; split at h <;> cases h
theorem Rep.non_iff {K : PySem.W.Frag} {w : World} {P : Addr → Prop} {H : Hp} {d : D} {v : V} {as : List Addr} (h : Rep K w P H d v as) : decide (v = .non) = (match d with | .non => true | _ => false) := by
  cases h <;> simp
theorem op_isN' : Op2 X (compareOp .Is) gIsN := OpRi op_isN fun x y H Q q => by
  obtain ⟨P, a1, a2, d, e, r, fz, r1, r2, ow, hg, k⟩ := rD2 q
  have hd := r1.non_iff
  cases e with
  | non =>
    cases r2
    refine ⟨rfl, ?_⟩
    rw [hd]
    cases d <;> (simp only [gIsN, ER.val.injEq] at hg; subst hg; exact k _ H (.bl _))
  | _ => cases d <;> simp [gIsN] at hg
theorem op_notN' : Op2 X (compareOp .IsNot) gNotN := OpRi op_notN fun x y H Q q => by
  obtain ⟨P, a1, a2, d, e, r, fz, r1, r2, ow, hg, k⟩ := rD2 q
  have hd := r1.non_iff
  cases e with
  | non =>
    cases r2
    refine ⟨rfl, ?_⟩
    rw [hd]
    cases d <;> (simp only [gNotN, ER.val.injEq] at hg; subst hg; exact k _ H (.bl _))
  | _ => cases d <;> simp [gNotN] at hg
end
end DL

set_option Elab.async false
set_option linter.all false
set_option maxRecDepth 100000
namespace DL
open PySem PySem.Spec L2
open PyProof.Rows hiding St

section
variable {K : PySem.W.Frag} {w : World} {P : Addr → Prop} {H : Hp}
theorem Rep.lst_h {o : Bool} {xs : List D} {v : V} {as : List Addr} (h : Rep K w P H (.lst o xs) v as) : ∃ a vs bs, v = .ref a ∧ H a = some (.lst vs) ∧ Reps K w P H xs vs bs ∧ bs.Sublist as := by
  cases h with
  | lstF a b => exact ⟨_, _, _, rfl, a.1, b, List.Sublist.refl _⟩
  | lstO a b => exact ⟨_, _, _, rfl, a, b, List.sublist_cons_self _ _⟩
end
section
variable {X : Cx}

def gAdd : List D → ER
  | [.int i, .int j] => .val (.int (i + j))
  | [.str x, .str y] => if x.length + y.length ≤ sizeLine then .val (.str (x ++ y)) else .stuck
  | [.lst _ xs, .lst _ ys] => if xs.length + ys.length ≤ sizeLine then .val (.lst true (xs ++ ys)) else .stuck
  | [.tup xs, .tup ys] => if xs.length + ys.length ≤ sizeLine then .val (.tup (xs ++ ys)) else .stuck
  | _ => .stuck
theorem NoX.add : NoX gAdd := fun ds c n h => by unfold gAdd at h; split at h <;> (first | cases h | (split at h <;> cases h))
theorem sub2 {a1 a2 b1 b2 : List Addr} (h1 : b1.Sublist a1) (h2 : b2.Sublist a2) : (b1 ++ b2).Sublist (a1 ++ a2) := List.Sublist.append h1 h2
theorem op_add' : Op2 X (binaryOp .Add) gAdd := by
  intro pins s σ H x y v u Q I rx ry h
  obtain ⟨P, a1, a2, d, e, r, fz, r1, r2, ow, hg, q⟩ := rD2 h
  unfold gAdd at hg
  split at hg
  · rename_i i j he
    injection he with e1 e2; injection e2 with e2 _; subst e1 e2
    cases hg
    obtain ⟨rfl, rfl⟩ := r1.int_eq
    obtain ⟨rfl, rfl⟩ := r2.int_eq
    exact op_add pins s σ H _ _ v u Q I rx ry ⟨i, j, rfl, rfl, q _ H (.int _)⟩
  · rename_i i j he
    injection he with e1 e2; injection e2 with e2 _; subst e1 e2
    split at hg
    · rename_i hz
      cases hg
      obtain ⟨rfl, rfl⟩ := r1.str_eq
      obtain ⟨rfl, rfl⟩ := r2.str_eq
      exact op_add_str pins s σ H _ _ v u Q I rx ry ⟨i, j, rfl, rfl, hz, q _ H (.str _)⟩
    · cases hg
  · rename_i o1 xs o2 ys he
    injection he with e1 e2; injection e2 with e2 _; subst e1 e2
    split at hg
    · rename_i hz
      cases hg
      obtain ⟨a, vs, b1, rfl, ha, ra, s1⟩ := r1.lst_h
      obtain ⟨b, us, b2, rfl, hb, rb, s2⟩ := r2.lst_h
      refine op_cat pins s σ H _ _ v u Q I rx ry ⟨a, b, vs, us, rfl, rfl, ha, hb, by rw [← ra.length, ← rb.length]; exact hz, fun p hp => q _ _ ?_⟩
      exact Out.weak (sub2 s1 s2) (Out.newL hp (fz.new hp) (ra.append rb) (ow.sub (sub2 s1 s2)))
    · cases hg
  · rename_i xs ys he
    injection he with e1 e2; injection e2 with e2 _; subst e1 e2
    split at hg
    · rename_i hz
      cases hg
      obtain ⟨a, vs, rfl, ha, ra⟩ := r1.tup_inv
      obtain ⟨b, us, rfl, hb, rb⟩ := r2.tup_inv
      refine op_catA pins s σ H _ _ v u Q I rx ry ⟨a, b, vs, us, rfl, rfl, .of ha, .of hb, by rw [← ra.length, ← rb.length]; exact hz, fun ez => ?_, fun ez ez2 => ?_, fun _ _ p hp => ?_⟩
      · have : xs = [] := by have := ra.length; rw [ez] at this; simpa using this
        subst this
        exact q _ H (Out.part ow (List.sublist_append_right _ _) (.tup hb rb))
      · have : ys = [] := by have := rb.length; rw [ez2] at this; simpa using this
        subst this
        rw [List.append_nil] at q
        exact q _ H (Out.part ow (List.sublist_append_left _ _) (.tup ha ra))
      · exact q _ _ (Out.newT hp (ra.append rb) ow)
    · cases hg
  · cases hg

def gRep : List D → ER
  | [.lst _ xs, .int k] => if -(2 ^ 63) ≤ k ∧ k < 2 ^ 63 ∧ xs.length * k.toNat ≤ sizeLine ∧ cleans xs = true then .val (.lst true ((List.replicate k.toNat (fzs xs)).flatten)) else .stuck
  | _ => .stuck
theorem NoX.rep : NoX gRep := fun ds c n h => by unfold gRep at h; split at h <;> (first | cases h | (split at h <;> cases h))
theorem Reps.rep {K : PySem.W.Frag} {w : World} {P : Addr → Prop} {H : Hp} {ds : List D} {vs : List V} (h : Reps K w P H ds vs []) : ∀ k : Nat, Reps K w P H (List.replicate k ds).flatten (List.replicate k vs).flatten []
  | 0 => .nil
  | k + 1 => by
    rw [List.replicate_succ, List.replicate_succ, List.flatten_cons, List.flatten_cons]
    exact h.append (b1 := []) (h.rep k)
theorem op_rep' : Op2 X (binaryOp .Mult) gRep := by
  intro pins s σ H x y v u Q I rx ry h
  obtain ⟨P, a1, a2, d, e, r, fz, r1, r2, ow, hg, q⟩ := rD2 h
  unfold gRep at hg
  split at hg
  · rename_i o xs k he
    injection he with e1 e2; injection e2 with e2 _; subst e1 e2
    split at hg
    · rename_i hc
      obtain ⟨h1, h2, h3, h4⟩ := hc
      cases hg
      obtain ⟨rfl, rfl⟩ := r2.int_eq
      obtain ⟨a, vs, b1, rfl, ha, ra, s1⟩ := r1.lst_h
      refine op_rep pins s σ H _ _ v u Q I rx ry ⟨a, k, vs, rfl, rfl, ha, h1, h2, by rw [← ra.length]; exact h3, fun p hp => q _ _ ?_⟩
      -- the items are frozen: each stands in the new list several times
      have rf : Reps X.K X.w (fun a => P a ∨ a ∈ b1) H (fzs xs) vs [] := ra.fz (fun _ z => .inl z) (fun _ z => .inr z)
      have np : ¬ (P p ∨ p ∈ b1) := fun z => z.elim (fz.new hp) fun z => by obtain ⟨o, ho⟩ := (ra.there p z).some; rw [hp] at ho; cases ho
      refine ⟨fun a => P a ∨ a ∈ b1, [p], ⟨same_new hp, fun _ z => .inl z, fun a z => z.elim .inl fun z => .inr (.inl (List.mem_append_left _ (s1.subset z)))⟩, .lstO upd_same ((rf.rep k.toNat).mono (same_new hp) fun _ z => z), ⟨by simp, fun a z => ?_⟩, fun a z => ?_⟩
      · rw [List.mem_singleton.mp z]; exact np
      · rw [List.mem_singleton.mp z]; exact .inr hp
    · cases hg
  · cases hg

def gIx : List D → ER
  | [.lst _ xs, .int i] => match atI xs i with | some d => .val d | none => .stuck
  | [.tup xs, .int i] => match atI xs i with | some d => .val d | none => .stuck
  | [.scr xs, .int i] => match atI xs i with | some d => .val (.int d) | none => .stuck
  | _ => .stuck
theorem NoX.ix : NoX gIx := fun ds c n h => by unfold gIx at h; split at h <;> (first | cases h | (split at h <;> cases h))
theorem atI_map {α β : Type} (f : α → β) (xs : List α) (i : Int) : atI (xs.map f) i = (atI xs i).map f := by
  unfold atI
  rw [List.length_map]
  cases ixN xs.length i with
  | none => rfl
  | some j => simp
theorem atI_reps {K : PySem.W.Frag} {w : World} {P : Addr → Prop} {H : Hp} {ds : List D} {vs : List V} {as : List Addr} (h : Reps K w P H ds vs as) {i : Int} {d : D} (e : atI ds i = some d) : ∃ v bs, atI vs i = some v ∧ Rep K w P H d v bs ∧ bs.Sublist as := by
  unfold atI at e ⊢
  rw [← h.length]
  cases hj : ixN ds.length i with
  | none => rw [hj] at e; simp at e
  | some j =>
    rw [hj] at e
    exact h.get e
theorem ix_rD {x y : V} {H : Hp} {Q : VK} (h : rD X.K X.w gIx [x, y] H Q) : rIx X.K x y H Q := by
  obtain ⟨P, a1, a2, d, e, r, fz, r1, r2, ow, hg, q⟩ := rD2 h
  unfold gIx at hg
  split at hg
  · rename_i o xs i he
    injection he with e1 e2; injection e2 with e2 _; subst e1 e2
    obtain ⟨rfl, rfl⟩ := r2.int_eq
    obtain ⟨a, vs, b1, rfl, ha, ra, s1⟩ := r1.lst_h
    split at hg
    · rename_i d hd
      cases hg
      obtain ⟨v, bs, hv, rv, s2⟩ := atI_reps ra hd
      exact .inl ⟨a, vs, i, v, rfl, rfl, .of ha, hv, q v H (Out.part ow ((s2.trans s1).trans (List.sublist_append_left _ _)) rv)⟩
    · cases hg
  · rename_i xs i he
    injection he with e1 e2; injection e2 with e2 _; subst e1 e2
    obtain ⟨rfl, rfl⟩ := r2.int_eq
    obtain ⟨a, vs, rfl, ha, ra⟩ := r1.tup_inv
    split at hg
    · rename_i d hd
      cases hg
      obtain ⟨v, bs, hv, rv, s2⟩ := atI_reps ra hd
      exact .inr (.inl ⟨a, vs, i, v, rfl, rfl, .of ha, hv, q v H (Out.part ow (s2.trans (List.sublist_append_left _ _)) rv)⟩)
    · cases hg
  · rename_i xs i he
    injection he with e1 e2; injection e2 with e2 _; subst e1 e2
    obtain ⟨rfl, rfl⟩ := r2.int_eq
    cases r1 with
    | scr hs =>
      split at hg
      · rename_i d hd
        cases hg
        exact .inl ⟨_, _, i, .int d, rfl, rfl, hs.sql, by rw [atI_map, hd]; rfl, q _ H (.int d)⟩
      · cases hg
  · cases hg
theorem de_ix {W : WX} {a b : Expr} {pos : Pos} {r1 r2 : List Nat} {f1 f2 : Ev} (ha : DE X W a r1 f1) (hb : DE X W b r2 f2) (hs : PlainIx b) : DE X W (.Subscript a b pos) (r1 ++ (r2 ++ [])) (eA gIx (lC f1 (lC f2 lN))) :=
  PEi (pe_ix ix_seq ha hb hs) fun σ H Q h => by
    have := seqD NoX.ix h
    obtain ⟨ρ, P, vw, k⟩ := this
    refine ⟨ρ, P, vw, ?_⟩
    split at k
    · intro v H1 o
      obtain ⟨ρ2, P2, vw2, k2⟩ := k v H1 o
      refine ⟨ρ2, P2, vw2, ?_⟩
      split at k2
      · exact fun v2 H2 o2 => ix_rD (k2 v2 H2 o2)
      · exact k2
      · exact k2
    · exact k
    · exact k

def cutD (xs : List D) (lo hi : Option Int) : List D := (xs.drop (HT.sIx xs.length 0 lo)).take (HT.sIx xs.length xs.length hi - HT.sIx xs.length 0 lo)
theorem Reps.cut {K : PySem.W.Frag} {w : World} {P : Addr → Prop} {H : Hp} {ds : List D} {vs : List V} {as : List Addr} (h : Reps K w P H ds vs as) (lo hi : Option Int) : ∃ bs, Reps K w P H (cutD ds lo hi) (cutV vs lo hi) bs ∧ bs.Sublist as := by
  unfold cutD cutV
  rw [← h.length]
  obtain ⟨b1, r1, s1⟩ := h.drop (HT.sIx ds.length 0 lo)
  obtain ⟨b2, r2, s2⟩ := r1.take (HT.sIx ds.length ds.length hi - HT.sIx ds.length 0 lo)
  exact ⟨b2, r2, s2.trans s1⟩
/-- a slice's bound: left out, or an int -/
def sPart : D → Option (Option Int)
  | .non => some none
  | .int i => some (some i)
  | _ => none
def gSl : List D → ER
  | [.lst _ xs, l, h] => match sPart l, sPart h with | some lo, some hi => .val (.lst true (cutD xs lo hi)) | _, _ => .stuck
  | [.tup xs, l, h] => match sPart l, sPart h with | some lo, some hi => .val (.tup (cutD xs lo hi)) | _, _ => .stuck
  | _ => .stuck
theorem NoX.sl : NoX gSl := fun ds c n h => by unfold gSl at h; split at h <;> (first | cases h | (split at h <;> cases h))
def eNo : Ev := fun _ => .val .non
/-- the bound is an int: what is not is stuck -/
def eInt (f : Ev) : Ev := fun ρ => match f ρ with
  | .val (.int i) => .val (.int i)
  | .exc c n => .exc c n
  | _ => .stuck
def tPt (L : Lt) (rd : List Nat) (f : Ev) : TO := fun σ H Q => ∃ ρ P, View L.K L.w P H rd ρ σ ∧ match f ρ with
  | .val .non => ∀ H', Same H H' → Q none H'
  | .val (.int i) => ∀ H', Same H H' → Q (some i) H'
  | .exc c n => Fly L c n σ H
  | _ => False
/-- a bound of a slice -/
structure DP (X : Cx) (W : WX) (e : Option Expr) (rd : List Nat) (f : Ev) : Prop where
  po : PO X e (tPt (lt X W) rd f)
  isp : ∀ ρ d, f ρ = .val d → d = .non ∨ ∃ i, d = .int i
theorem POi {X : Cx} {e : Option Expr} {t t' : TO} (h : PO X e t) (i : ∀ σ H Q, t' σ H Q → t σ H Q) : PO X e t' := ⟨fun pins s σ H Q I q => h.run pins s σ H Q I (i σ H Q q)⟩
theorem dp_no {W : WX} : DP X W none [] eNo := ⟨POi po_none fun σ H Q ⟨ρ, P, vw, q⟩ => q H (.refl _), fun ρ d h => by cases h; exact .inl rfl⟩
theorem dp_i {W : WX} {e : Expr} {rd : List Nat} {f : Ev} (h : DE X W e rd f) : DP X W (some e) rd (eInt f) := ⟨POi (po_some h) fun σ H Q ⟨ρ, P, vw, q⟩ => by
  refine ⟨ρ, P, vw, ?_⟩
  unfold eInt at q
  cases hf : f ρ with
  | val d =>
    rw [hf] at q
    cases d with
    | int i =>
      intro v H1 o
      have e1 := o.same
      obtain ⟨_, _, _, rr, _⟩ := o
      cases rr
      exact ⟨i, rfl, q H1 e1⟩
    | _ => exact q.elim
  | exc c n => rw [hf] at q; exact q
  | stuck => rw [hf] at q; exact q, fun ρ d hd => by
  unfold eInt at hd
  split at hd <;> cases hd
  exact .inr ⟨_, rfl⟩⟩
def rSlD (K : PySem.W.Frag) (w : World) : V → Option Int → Option Int → Hp → VK → Prop := fun x lo hi H Q => ∃ P as d r, Fz P H ∧ Rep K w P H d x as ∧ Own P as ∧ gSl [d, (match lo with | none => .non | some i => .int i), (match hi with | none => .non | some i => .int i)] = .val r ∧ ∀ v H', Out K w P as H H' r v → Q v H'
theorem sPart_of (lo : Option Int) : sPart (match lo with | none => .non | some i => .int i) = some lo := by cases lo <;> rfl
theorem sl_D : SlR X (rSlD X.K X.w) := by
  intro pins s σ H x v vl vu lo hi sl Q I rx hs pl pu h
  obtain ⟨P, as, d, r, fz, r1, ow, hg, q⟩ := h
  unfold gSl at hg
  split at hg
  · rename_i o xs l hh he
    injection he with e1 e2; injection e2 with e2 e3; injection e3 with e3 _; subst e1 e2 e3
    rw [sPart_of, sPart_of] at hg
    cases hg
    obtain ⟨a, vs, b1, rfl, ha, ra, s1⟩ := r1.lst_h
    obtain ⟨b2, rc, s2⟩ := ra.cut lo hi
    exact sl_list pins s σ H _ v vl vu lo hi sl Q I rx hs pl pu ⟨a, vs, rfl, .of ha, fun p hp => q _ _ (Out.weak (s2.trans s1) (Out.newL hp (fz.new hp) rc (ow.sub (s2.trans s1))))⟩
  · rename_i xs l hh he
    injection he with e1 e2; injection e2 with e2 e3; injection e3 with e3 _; subst e1 e2 e3
    rw [sPart_of, sPart_of] at hg
    cases hg
    obtain ⟨a, vs, rfl, ha, ra⟩ := r1.tup_inv
    obtain ⟨b2, rc, s2⟩ := ra.cut lo hi
    refine sl_tupA pins s σ H _ v vl vu lo hi sl Q I rx hs pl pu ⟨a, vs, rfl, .of ha, fun hw => ?_, fun _ p hp => q _ _ (Out.weak s2 (Out.newT hp rc (ow.sub s2)))⟩
    have : cutD xs lo hi = xs := by
      unfold cutD
      rw [ra.length, hw.1, hw.2]
      rw [List.drop_zero, Nat.sub_zero, ← ra.length, List.take_length]
    rw [this] at q
    exact q _ H (Out.part ow (List.Sublist.refl _) (.tup ha ra))
  · cases hg
theorem de_sl {W : WX} {a : Expr} {lo hi : Option Expr} {pos p2 : Pos} {r1 r2 r3 : List Nat} {f1 f2 f3 : Ev} (ha : DE X W a r1 f1) (hl : DP X W lo r2 f2) (hh : DP X W hi r3 f3) :
    DE X W (.Subscript a (.Slice lo hi none p2) pos) (r1 ++ (r2 ++ r3)) (eA gSl (lC f1 (lC f2 (lC f3 lN)))) :=
  PEi (pe_slice sl_D ha hl.po hh.po) fun σ H Q ⟨ρ, P, vw, q⟩ => by
    refine ⟨ρ, P, vw.left, ?_⟩
    unfold eA lC lN at q
    cases h1 : f1 ρ with
    | val d1 =>
      simp only [h1] at q
      intro v H1 o1
      refine ⟨ρ, P, (vw.right.left).same o1.same, ?_⟩
      have go : ∀ d2 lo, f2 ρ = .val d2 → (match lo with | none => D.non | some i => .int i) = d2 → ∀ H2, Same H1 H2 → tPt (lt X W) r3 f3 σ H2 fun hi H3 => rSlD X.K X.w v lo hi H3 Q := fun d2 lo h2 e2 H2 s2 => by
        refine ⟨ρ, P, (vw.right.right).same (o1.same.trans s2), ?_⟩
        simp only [h2] at q
        have go2 : ∀ d3 hi, f3 ρ = .val d3 → (match hi with | none => D.non | some i => .int i) = d3 → ∀ H3, Same H2 H3 → rSlD X.K X.w v lo hi H3 Q := fun d3 hi h3 e3 H3 s3 => by
          simp only [h3] at q
          cases hg : gSl [d1, d2, d3] with
          | val r =>
            simp only [hg] at q
            obtain ⟨P1, a1, g1, rr1, w1, n1⟩ := o1
            have s13 := s2.trans s3
            have th : ∀ a ∈ a1, ∃ o, H1 a = some o := fun a z => (rr1.there a z).some
            have g3 : Grow P P1 [] H H3 := ⟨g1.same.trans s13, g1.le, fun a z => (g1.new a z).elim .inl fun z => z.elim (fun z => nomatch z) fun ⟨z, o, y⟩ => .inr (.inr ⟨z, o, s13 _ _ y⟩)⟩
            exact ⟨P1, a1, d1, r, g3.fz vw.fz (fun _ z => nomatch z), rr1.mono s13 (fun _ z => z), w1, by rw [e2, e3]; exact hg, fun v' H' o => q v' H' (OutL.comb g3 (fun x hx => (n1 x hx).elim (fun z => nomatch z) id) (fun x hx => by obtain ⟨o, ho⟩ := th x hx; exact ⟨o, s13 _ _ ho⟩) o)⟩
          | exc c n => exact absurd hg (NoX.sl _ _ _)
          | stuck => simp only [hg] at q
        cases h3 : f3 ρ with
        | val d3 =>
          rcases hh.isp ρ d3 h3 with rfl | ⟨i, rfl⟩
          · exact fun H3 s3 => go2 _ none h3 rfl H3 s3
          · exact fun H3 s3 => go2 _ (some i) h3 rfl H3 s3
        | exc c n => simp only [h3] at q; exact q.same (o1.same.trans s2)
        | stuck => simp only [h3] at q
      cases h2 : f2 ρ with
      | val d2 =>
        rcases hl.isp ρ d2 h2 with rfl | ⟨i, rfl⟩
        · exact fun H2 s2 => go _ none h2 rfl H2 s2
        · exact fun H2 s2 => go _ (some i) h2 rfl H2 s2
      | exc c n => simp only [h2] at q; exact q.same o1.same
      | stuck => simp only [h2] at q
    | exc c n => simp only [h1] at q; exact q
    | stuck => simp only [h1] at q
end
end DL

set_option Elab.async false
set_option linter.all false
set_option maxRecDepth 100000
namespace DL
open PySem PySem.Spec L2
open PyProof.Rows hiding St

section
variable {X : Cx}
def gLen : List D → ER
  | [.lst _ xs] => .val (.int xs.length)
  | [.tup xs] => .val (.int xs.length)
  | [.scr xs] => .val (.int xs.length)
  | [.str x] => if x.length ≤ sizeLine then .val (.int x.length) else .stuck
  | _ => .stuck
theorem NoX.len : NoX gLen := fun ds c n h => by unfold gLen at h; split at h <;> (first | cases h | (split at h <;> cases h))
/-- what rD says of a list of values, in parts -/
theorem rDn {K : PySem.W.Frag} {w : World} {g : List D → ER} {vs : List V} {H : Hp} {Q : VK} (h : rD K w g vs H Q) : ∃ P as ds r, Fz P H ∧ Reps K w P H ds vs as ∧ Own P as ∧ g ds = .val r ∧ ∀ v H', Out K w P as H H' r v → Q v H' := h
theorem Reps.sing {K : PySem.W.Frag} {w : World} {P : Addr → Prop} {H : Hp} {d : D} {vs : List V} {as : List Addr} (h : Reps K w P H [d] vs as) : ∃ v, vs = [v] ∧ Rep K w P H d v as := by
  obtain ⟨v, us, a1, a2, rfl, rfl, r1, r2⟩ := h.cons_inv
  cases r2
  exact ⟨v, rfl, by rw [List.append_nil]; exact r1⟩
theorem Reps.pair {K : PySem.W.Frag} {w : World} {P : Addr → Prop} {H : Hp} {d e : D} {vs : List V} {as : List Addr} (h : Reps K w P H [d, e] vs as) : ∃ v u a1 a2, vs = [v, u] ∧ as = a1 ++ a2 ∧ Rep K w P H d v a1 ∧ Rep K w P H e u a2 := by
  obtain ⟨v, us, a1, a2, rfl, rfl, r1, r2⟩ := h.cons_inv
  obtain ⟨u, rfl, r3⟩ := r2.sing
  exact ⟨v, u, a1, a2, rfl, rfl, r1, r3⟩
theorem call_len' : CallD X (.builtin "len") gLen := CallRi call_len fun vs H Q h => by
  obtain ⟨P, as, ds, r, fz, rr, ow, hg, q⟩ := h
  unfold gLen at hg
  split at hg
  · obtain ⟨v, rfl, r1⟩ := rr.sing
    cases hg
    obtain ⟨a, us, bs, rfl, ha, ra, _⟩ := r1.lst_h
    exact ⟨_, _, rfl, .inl ⟨us, .of ha, ra.length⟩, q _ H (.int _)⟩
  · obtain ⟨v, rfl, r1⟩ := rr.sing
    cases hg
    obtain ⟨a, us, rfl, ha, ra⟩ := r1.tup_inv
    exact ⟨_, _, rfl, .inr ⟨us, .of ha, ra.length⟩, q _ H (.int _)⟩
  · obtain ⟨v, rfl, r1⟩ := rr.sing
    cases hg
    cases r1 with
    | scr hs => exact ⟨_, _, rfl, .inl ⟨_, hs.sql, by simp⟩, q _ H (.int _)⟩
  · obtain ⟨v, rfl, r1⟩ := rr.sing
    split at hg
    · rename_i hz
      cases hg
      obtain ⟨rfl, _⟩ := r1.str_eq
      exact ⟨_, _, rfl, ⟨hz, rfl⟩, q _ H (.int _)⟩
    · cases hg
  · cases hg
/-- list(x): a new list -/
def gList : List D → ER
  | [.lst _ xs] => .val (.lst true xs)
  | [.tup xs] => .val (.lst true xs)
  | _ => .stuck
theorem NoX.list : NoX gList := fun ds c n h => by unfold gList at h; split at h <;> cases h
theorem call_list' : CallD X (.type "list") gList := CallRi call_list_of fun vs H Q h => by
  obtain ⟨P, as, ds, r, fz, rr, ow, hg, q⟩ := h
  unfold gList at hg
  split at hg
  · obtain ⟨v, rfl, r1⟩ := rr.sing
    cases hg
    obtain ⟨a, us, bs, rfl, ha, ra, s⟩ := r1.lst_h
    exact ⟨a, us, rfl, .inl (.of ha), fun p hp => q _ _ (Out.weak s (Out.newL hp (fz.new hp) ra (ow.sub s)))⟩
  · obtain ⟨v, rfl, r1⟩ := rr.sing
    cases hg
    obtain ⟨a, us, rfl, ha, ra⟩ := r1.tup_inv
    exact ⟨a, us, rfl, .inr (.of ha), fun p hp => q _ _ (Out.newL hp (fz.new hp) ra ow)⟩
  · cases hg
def gTuple : List D → ER
  | [.lst _ xs] => .val (.tup xs)
  | [.tup xs] => .val (.tup xs)
  | _ => .stuck
theorem NoX.tuple : NoX gTuple := fun ds c n h => by unfold gTuple at h; split at h <;> cases h
theorem call_tuple' : CallD X (.type "tuple") gTuple := CallRi call_tuple_of fun vs H Q h => by
  obtain ⟨P, as, ds, r, fz, rr, ow, hg, q⟩ := h
  unfold gTuple at hg
  split at hg
  · obtain ⟨v, rfl, r1⟩ := rr.sing
    cases hg
    obtain ⟨a, us, bs, rfl, ha, ra, s⟩ := r1.lst_h
    exact ⟨a, us, rfl, .inl ⟨.of ha, fun p hp => q _ _ (Out.weak s (Out.newT hp ra (ow.sub s)))⟩⟩
  · obtain ⟨v, rfl, r1⟩ := rr.sing
    cases hg
    obtain ⟨a, us, rfl, ha, ra⟩ := r1.tup_inv
    exact ⟨a, us, rfl, .inr ⟨.of ha, q _ H (Out.part ow (List.Sublist.refl _) (.tup ha ra))⟩⟩
  · cases hg
def gInt : List D → ER
  | [.int i] => .val (.int i)
  | [.bl b] => .val (.int (if b then 1 else 0))
  | _ => .stuck
theorem NoX.int : NoX gInt := fun ds c n h => by unfold gInt at h; split at h <;> cases h
theorem call_int' : CallD X (.type "int") gInt := CallRi call_int1 fun vs H Q h => by
  obtain ⟨P, as, ds, r, fz, rr, ow, hg, q⟩ := h
  unfold gInt at hg
  split at hg
  · obtain ⟨v, rfl, r1⟩ := rr.sing
    cases hg
    obtain ⟨rfl, _⟩ := r1.int_eq
    exact .inl ⟨_, rfl, q _ H (.int _)⟩
  · obtain ⟨v, rfl, r1⟩ := rr.sing
    cases hg
    obtain ⟨rfl, _⟩ := r1.bl_eq
    exact .inr ⟨_, rfl, q _ H (.int _)⟩
  · cases hg
def gAbs : List D → ER
  | [.int i] => .val (.int (if i < 0 then -i else i))
  | _ => .stuck
theorem NoX.abs : NoX gAbs := fun ds c n h => by unfold gAbs at h; split at h <;> cases h
theorem call_abs' : CallD X (.builtin "abs") gAbs := CallRi call_abs fun vs H Q h => by
  obtain ⟨P, as, ds, r, fz, rr, ow, hg, q⟩ := h
  unfold gAbs at hg
  split at hg
  · obtain ⟨v, rfl, r1⟩ := rr.sing
    cases hg
    obtain ⟨rfl, _⟩ := r1.int_eq
    exact ⟨_, rfl, q _ H (.int _)⟩
  · cases hg
/-- the greatest, the least -/
def maxI : List Int → Int
  | [] => 0
  | [i] => i
  | i :: r => if i < maxI r then maxI r else i
def minI : List Int → Int
  | [] => 0
  | [i] => i
  | i :: r => if minI r < i then minI r else i
theorem maxI_spec : ∀ (l : List Int), l ≠ [] → maxI l ∈ l ∧ ∀ y ∈ l, y ≤ maxI l
  | [], h => absurd rfl h
  | [i], _ => ⟨by simp [maxI], by simp [maxI]⟩
  | i :: j :: r, _ => by
    obtain ⟨a, b⟩ := maxI_spec (j :: r) (by simp)
    unfold maxI
    split
    · rename_i hlt
      exact ⟨List.mem_cons_of_mem _ a, fun y hy => (List.mem_cons.mp hy).elim (fun e => by rw [e]; exact Int.le_of_lt hlt) (b y)⟩
    · rename_i hlt
      exact ⟨List.mem_cons_self, fun y hy => (List.mem_cons.mp hy).elim (fun e => by rw [e]; exact Int.le_refl _) fun z => by have := b y z; omega⟩
theorem minI_spec : ∀ (l : List Int), l ≠ [] → minI l ∈ l ∧ ∀ y ∈ l, minI l ≤ y
  | [], h => absurd rfl h
  | [i], _ => ⟨by simp [minI], by simp [minI]⟩
  | i :: j :: r, _ => by
    obtain ⟨a, b⟩ := minI_spec (j :: r) (by simp)
    unfold minI
    split
    · rename_i hlt
      exact ⟨List.mem_cons_of_mem _ a, fun y hy => (List.mem_cons.mp hy).elim (fun e => by rw [e]; exact Int.le_of_lt hlt) (b y)⟩
    · rename_i hlt
      exact ⟨List.mem_cons_self, fun y hy => (List.mem_cons.mp hy).elim (fun e => by rw [e]; exact Int.le_refl _) fun z => by have := b y z; omega⟩
def intsOf : List D → Option (List Int)
  | [] => some []
  | .int i :: r => (intsOf r).map (i :: ·)
  | _ => none
def blsOf : List D → Option (List Bool)
  | [] => some []
  | .bl i :: r => (blsOf r).map (i :: ·)
  | _ => none
theorem intsOf_reps {K : PySem.W.Frag} {w : World} {P : Addr → Prop} {H : Hp} : ∀ {ds : List D} {vs : List V} {as : List Addr} {ns : List Int}, Reps K w P H ds vs as → intsOf ds = some ns → vs = ns.map V.int ∧ as = []
  | _, _, _, ns, .nil, h => by simp [intsOf] at h; subst h; exact ⟨rfl, rfl⟩
  | d :: ds, _, _, ns, .cons a b, h => by
    cases a with
    | int i =>
      simp only [intsOf] at h
      cases e : intsOf ds with
      | none => rw [e] at h; cases h
      | some l =>
        rw [e] at h
        cases h
        obtain ⟨rfl, rfl⟩ := intsOf_reps b e
        exact ⟨rfl, rfl⟩
    | _ => simp [intsOf] at h
theorem blsOf_reps {K : PySem.W.Frag} {w : World} {P : Addr → Prop} {H : Hp} : ∀ {ds : List D} {vs : List V} {as : List Addr} {ns : List Bool}, Reps K w P H ds vs as → blsOf ds = some ns → vs = ns.map V.bl ∧ as = []
  | _, _, _, ns, .nil, h => by simp [blsOf] at h; subst h; exact ⟨rfl, rfl⟩
  | d :: ds, _, _, ns, .cons a b, h => by
    cases a with
    | bl i =>
      simp only [blsOf] at h
      cases e : blsOf ds with
      | none => rw [e] at h; cases h
      | some l =>
        rw [e] at h
        cases h
        obtain ⟨rfl, rfl⟩ := blsOf_reps b e
        exact ⟨rfl, rfl⟩
    | _ => simp [blsOf] at h
/-- max of two ints, or of a list of ints (not empty) -/
def gMax : List D → ER
  | [.int i, .int j] => .val (.int (if j > i then j else i))
  | [.lst _ xs] => match intsOf xs with
    | some (i :: r) => .val (.int (maxI (i :: r)))
    | _ => .stuck
  | _ => .stuck
def gMin : List D → ER
  | [.int i, .int j] => .val (.int (if j < i then j else i))
  | [.lst _ xs] => match intsOf xs with
    | some (i :: r) => .val (.int (minI (i :: r)))
    | _ => .stuck
  | _ => .stuck
theorem NoX.max : NoX gMax := fun ds c n h => by unfold gMax at h; split at h <;> (first | cases h | (split at h <;> cases h))
theorem NoX.min : NoX gMin := fun ds c n h => by unfold gMin at h; split at h <;> (first | cases h | (split at h <;> cases h))
theorem call_max' (hc : X.calm = true) : CallD X (.builtin "max") gMax := CallRi ((call_max2 hc).or (cr_max hc)) fun vs H Q h => by
  obtain ⟨P, as, ds, r, fz, rr, ow, hg, q⟩ := h
  unfold gMax at hg
  split at hg
  · obtain ⟨v, u, a1, a2, rfl, rfl, r1, r2⟩ := rr.pair
    cases hg
    obtain ⟨rfl, _⟩ := r1.int_eq
    obtain ⟨rfl, _⟩ := r2.int_eq
    exact .inl ⟨_, _, rfl, q _ H (.int _)⟩
  · obtain ⟨v, rfl, r1⟩ := rr.sing
    split at hg
    · rename_i i l hi
      cases hg
      obtain ⟨a, us, bs, rfl, ha, ra, s⟩ := r1.lst_h
      obtain ⟨rfl, rfl⟩ := intsOf_reps ra hi
      obtain ⟨m1, m2⟩ := maxI_spec (i :: l) (by simp)
      refine .inr ⟨a, i :: l, rfl, .of ha, by simp, fun m h1 h2 => ?_⟩
      have : m = maxI (i :: l) := Int.le_antisymm (m2 m h1) (h2 _ m1)
      rw [this]
      exact q _ H (.int _)
    · cases hg
  · cases hg
theorem call_min' (hc : X.calm = true) : CallD X (.builtin "min") gMin := CallRi ((call_min2 hc).or (cr_min hc)) fun vs H Q h => by
  obtain ⟨P, as, ds, r, fz, rr, ow, hg, q⟩ := h
  unfold gMin at hg
  split at hg
  · obtain ⟨v, u, a1, a2, rfl, rfl, r1, r2⟩ := rr.pair
    cases hg
    obtain ⟨rfl, _⟩ := r1.int_eq
    obtain ⟨rfl, _⟩ := r2.int_eq
    exact .inl ⟨_, _, rfl, q _ H (.int _)⟩
  · obtain ⟨v, rfl, r1⟩ := rr.sing
    split at hg
    · rename_i i l hi
      cases hg
      obtain ⟨a, us, bs, rfl, ha, ra, s⟩ := r1.lst_h
      obtain ⟨rfl, rfl⟩ := intsOf_reps ra hi
      obtain ⟨m1, m2⟩ := minI_spec (i :: l) (by simp)
      refine .inr ⟨a, i :: l, rfl, .of ha, by simp, fun m h1 h2 => ?_⟩
      have : m = minI (i :: l) := Int.le_antisymm (h2 _ m1) (m2 m h1)
      rw [this]
      exact q _ H (.int _)
    · cases hg
  · cases hg
def gSum : List D → ER
  | [.lst _ xs] => match intsOf xs with
    | some ns => .val (.int ns.sum)
    | none => .stuck
  | _ => .stuck
def gAny : List D → ER
  | [.lst _ xs] => match blsOf xs with
    | some ns => .val (.bl (ns.any id))
    | none => .stuck
  | _ => .stuck
def gAll : List D → ER
  | [.lst _ xs] => match blsOf xs with
    | some ns => .val (.bl (ns.all id))
    | none => .stuck
  | _ => .stuck
theorem NoX.sum : NoX gSum := fun ds c n h => by unfold gSum at h; split at h <;> (first | cases h | (split at h <;> cases h))
theorem NoX.any : NoX gAny := fun ds c n h => by unfold gAny at h; split at h <;> (first | cases h | (split at h <;> cases h))
theorem NoX.all : NoX gAll := fun ds c n h => by unfold gAll at h; split at h <;> (first | cases h | (split at h <;> cases h))
theorem call_sum' (hc : X.calm = true) : CallD X (.builtin "sum") gSum := CallRi (cr_sum hc) fun vs H Q h => by
  obtain ⟨P, as, ds, r, fz, rr, ow, hg, q⟩ := h
  unfold gSum at hg
  split at hg
  · obtain ⟨v, rfl, r1⟩ := rr.sing
    split at hg
    · rename_i ns hi
      cases hg
      obtain ⟨a, us, bs, rfl, ha, ra, s⟩ := r1.lst_h
      obtain ⟨rfl, rfl⟩ := intsOf_reps ra hi
      exact ⟨a, ns, rfl, .of ha, q _ H (.int _)⟩
    · cases hg
  · cases hg
theorem call_any' (hc : X.calm = true) : CallD X (.builtin "any") gAny := CallRi (cr_any hc) fun vs H Q h => by
  obtain ⟨P, as, ds, r, fz, rr, ow, hg, q⟩ := h
  unfold gAny at hg
  split at hg
  · obtain ⟨v, rfl, r1⟩ := rr.sing
    split at hg
    · rename_i ns hi
      cases hg
      obtain ⟨a, us, bs, rfl, ha, ra, s⟩ := r1.lst_h
      obtain ⟨rfl, rfl⟩ := blsOf_reps ra hi
      exact ⟨a, ns, rfl, .of ha, q _ H (.bl _)⟩
    · cases hg
  · cases hg
theorem call_all' (hc : X.calm = true) : CallD X (.builtin "all") gAll := CallRi (cr_all hc) fun vs H Q h => by
  obtain ⟨P, as, ds, r, fz, rr, ow, hg, q⟩ := h
  unfold gAll at hg
  split at hg
  · obtain ⟨v, rfl, r1⟩ := rr.sing
    split at hg
    · rename_i ns hi
      cases hg
      obtain ⟨a, us, bs, rfl, ha, ra, s⟩ := r1.lst_h
      obtain ⟨rfl, rfl⟩ := blsOf_reps ra hi
      exact ⟨a, ns, rfl, .of ha, q _ H (.bl _)⟩
    · cases hg
  · cases hg
def gGcd : List D → ER
  | [.int i, .int j] => .val (.int ((Nat.gcd i.natAbs j.natAbs : Nat) : Int))
  | _ => .stuck
theorem NoX.gcd : NoX gGcd := fun ds c n h => by unfold gGcd at h; split at h <;> cases h
theorem call_gcd' : CallD X (.builtin "math.gcd") gGcd := CallRi cr_gcd fun vs H Q h => by
  obtain ⟨P, as, ds, r, fz, rr, ow, hg, q⟩ := h
  unfold gGcd at hg
  split at hg
  · obtain ⟨v, u, a1, a2, rfl, rfl, r1, r2⟩ := rr.pair
    cases hg
    obtain ⟨rfl, _⟩ := r1.int_eq
    obtain ⟨rfl, _⟩ := r2.int_eq
    exact ⟨_, _, rfl, q _ H (.int _)⟩
  · cases hg
/-- f(e, ..), f a module's name for a built-in function -/
theorem de_callM {W : WX} {e : Expr} {es : List Expr} {pos : Pos} {rd : List Nat} {l : Lv} {x : Str} {p : Pos} {id : String} {g : List D → ER} (hc : CallD X (.builtin id) g) (ng : NoX g) (hg : Gl X x) (hm : X.mg x = some (.builtin id)) (ha : DA X W (e :: es) rd l) (hdb : (x == ("__debug__" : Str)) = false := by decide)
    (he : starEach (e :: es) X.env = (false, eval e X.env) :: starEach es X.env := by rfl) (hpl : (backTo pos (starEach es X.env)).any (·.1) = false := by rfl) : DE X W (.Call (.Name x p) (e :: es) [] pos) rd (eA g l) :=
  PEi (pe_callBfun hc hg hm ha hdb he hpl) fun σ H Q q => tA_of ng q

mutual
def toPy : D → Option PyData
  | .non => some .none
  | .bl b => some (.bool b)
  | .int i => some (.int i)
  | .str x => some (.str x)
  | .tup xs => (toPys xs).map .tuple
  | .lst _ xs => (toPys xs).map .list
  | _ => none
def toPys : List D → Option (List PyData)
  | [] => some []
  | d :: r => match toPy d, toPys r with
    | some p, some ps => some (p :: ps)
    | _, _ => none
end
mutual
theorem Rep.dp {K : PySem.W.Frag} {w : World} {P : Addr → Prop} {H : Hp} : ∀ {d : D} {v : V} {as : List Addr} {p : PyData}, Rep K w P H d v as → toPy d = some p → Dp K H v p
  | _, _, _, p, .non, h => by simp only [toPy, Option.some.injEq] at h; subst h; exact .non
  | _, _, _, p, .bl b, h => by simp only [toPy, Option.some.injEq] at h; subst h; exact .bl b
  | _, _, _, p, .int i, h => by simp only [toPy, Option.some.injEq] at h; subst h; exact .int i
  | _, _, _, p, .str x, h => by simp only [toPy, Option.some.injEq] at h; subst h; exact .str x
  | _, _, _, p, .tup (ds := ds) a b, h => by
    simp only [toPy] at h
    cases e : toPys ds with
    | none => rw [e] at h; cases h
    | some ps => rw [e] at h; cases h; exact .tup (.of a) (Reps.dp b e)
  | _, _, _, p, .lstF (ds := ds) a b, h => by
    simp only [toPy] at h
    cases e : toPys ds with
    | none => rw [e] at h; cases h
    | some ps => rw [e] at h; cases h; exact .lst (.of a.1) (Reps.dp b e)
  | _, _, _, p, .lstO (ds := ds) a b, h => by
    simp only [toPy] at h
    cases e : toPys ds with
    | none => rw [e] at h; cases h
    | some ps => rw [e] at h; cases h; exact .lst (.of a) (Reps.dp b e)
  | _, _, _, p, .dicF .., h => by simp [toPy] at h
  | _, _, _, p, .dicO .., h => by simp [toPy] at h
  | _, _, _, p, .set .., h => by simp [toPy] at h
  | _, _, _, p, .scr .., h => by simp [toPy] at h
theorem Reps.dp {K : PySem.W.Frag} {w : World} {P : Addr → Prop} {H : Hp} : ∀ {ds : List D} {vs : List V} {as : List Addr} {ps : List PyData}, Reps K w P H ds vs as → toPys ds = some ps → DpAll K H vs ps
  | _, _, _, ps, .nil, h => by simp only [toPys, Option.some.injEq] at h; subst h; exact .nil
  | d :: ds, _, _, ps, .cons a b, h => by
    simp only [toPys] at h
    cases e1 : toPy d with
    | none => rw [e1] at h; cases h
    | some p =>
      cases e2 : toPys ds with
      | none => rw [e1, e2] at h; cases h
      | some qs => rw [e1, e2] at h; cases h; exact .cons (Rep.dp a e1) (Reps.dp b e2)
end
/-- data that == tells -/
def okD (d : D) : Bool := match toPy d with
  | some p => SeqAt.shaped p
  | none => false
def dEq (d e : D) : Bool := match toPy d, toPy e with
  | some p, some q => PyData.eqv p q
  | _, _ => false
def gEq : List D → ER
  | [.str x, .str y] => .val (.bl (decide (x = y)))
  | [d, e] => if (okD d && okD e) = true then .val (.bl (dEq d e)) else .stuck
  | _ => .stuck
def gNe : List D → ER
  | [.str x, .str y] => .val (.bl (!decide (x = y)))
  | [d, e] => if (okD d && okD e) = true then .val (.bl (!dEq d e)) else .stuck
  | _ => .stuck
theorem NoX.eq : NoX gEq := fun ds c n h => by unfold gEq at h; split at h <;> (first | cases h | (split at h <;> cases h))
theorem NoX.ne : NoX gNe := fun ds c n h => by unfold gNe at h; split at h <;> (first | cases h | (split at h <;> cases h))
theorem okD_some {d : D} (h : okD d = true) : ∃ p, toPy d = some p ∧ SeqAt.shaped p = true := by
  unfold okD at h
  split at h
  · exact ⟨_, by assumption, h⟩
  · cases h
theorem op_eq' (hu : X.A.units + 64 < cLine) : Op2 X (compareOp .Eq) gEq := OpRi (OpR.or op_eq (op_eqD hu)) fun x y H Q h => by
  obtain ⟨P, a1, a2, d, e, r, fz, r1, r2, ow, hg, q⟩ := rD2 h
  unfold gEq at hg
  split at hg
  · rename_i i j he
    injection he with e1 e2; injection e2 with e2 _; subst e1 e2
    cases hg
    obtain ⟨rfl, _⟩ := r1.str_eq
    obtain ⟨rfl, _⟩ := r2.str_eq
    refine .inl ⟨rfl, ?_⟩
    have : decide (V.str i = V.str j) = decide (i = j) := by simp
    rw [this]
    exact q _ H (.bl _)
  · rename_i d' e' _ he
    injection he with e1 e2; injection e2 with e2 _; subst e1 e2
    split at hg
    · rename_i hok
      rw [Bool.and_eq_true] at hok
      cases hg
      obtain ⟨p1, t1, s1⟩ := okD_some hok.1
      obtain ⟨p2, t2, s2⟩ := okD_some hok.2
      refine .inr ⟨p1, p2, r1.dp t1, r2.dp t2, s1, s2, ?_⟩
      unfold dEq at q
      rw [t1, t2] at q
      exact q _ H (.bl _)
    · cases hg
  · cases hg
theorem op_ne' (hu : X.A.units + 64 < cLine) : Op2 X (compareOp .NotEq) gNe := OpRi (OpR.or op_ne (op_neD hu)) fun x y H Q h => by
  obtain ⟨P, a1, a2, d, e, r, fz, r1, r2, ow, hg, q⟩ := rD2 h
  unfold gNe at hg
  split at hg
  · rename_i i j he
    injection he with e1 e2; injection e2 with e2 _; subst e1 e2
    cases hg
    obtain ⟨rfl, _⟩ := r1.str_eq
    obtain ⟨rfl, _⟩ := r2.str_eq
    refine .inl ⟨rfl, ?_⟩
    have : decide (V.str i = V.str j) = decide (i = j) := by simp
    rw [this]
    exact q _ H (.bl _)
  · rename_i d' e' _ he
    injection he with e1 e2; injection e2 with e2 _; subst e1 e2
    split at hg
    · rename_i hok
      rw [Bool.and_eq_true] at hok
      cases hg
      obtain ⟨p1, t1, s1⟩ := okD_some hok.1
      obtain ⟨p2, t2, s2⟩ := okD_some hok.2
      refine .inr ⟨p1, p2, r1.dp t1, r2.dp t2, s1, s2, ?_⟩
      unfold dEq at q
      rw [t1, t2] at q
      exact q _ H (.bl _)
    · cases hg
  · cases hg
end
end DL

set_option Elab.async false
set_option linter.all false
set_option maxRecDepth 100000
namespace DL
open PySem PySem.Spec L2
open PyProof.Rows hiding St

theorem dx_blk {X : Cx} {W : WX} {k : Nat} (dx : Dx X W k) (s : Shared) (H : Hp) (scope : Scope) (ce : PySem.Env) (fp : List Addr) : Dx (X.blk s H scope ce fp) W0 k :=
  ⟨fun _ _ x => by obtain ⟨_, _, _, _, _, _, _, _, _, _, _, _, _, _, _, _, z⟩ := x; exact z.elim, dx.calm, dx.nd, dx.gd, dx.rm⟩

section
variable {X : Cx} {W : WX} {B : Fx} {elt tg iter tg1 iter1 : Expr} {ifs ifs1 : List Expr} {scope : Scope} {own : List (Str × Nat)} {pos : Pos} {rdi rdc rdf rdi1 rdc1 : List Nat} {l l1 : Lv} {gi gi1 : List D → Option (List D)} {t t1 : Tg} {c c1 f : Ev} {k : Nat}

theorem de_lc (dx : Dx X W k) (hi : DI X W tg iter rdi l gi) (ok : BlkOk X.N X.env.scope scope own) (hown : ∀ i ∈ t.slots, i ∈ own.map (·.2))
    (hg : ∀ (s : Shared) (H : Hp) (C : Addr) (cl : List (Str × Addr)) (fp : List Addr), DGv (X.blk s H scope (compEnvC scope cl C X.env) fp) tg (rdc ++ rdf) t)
    (ht : ∀ (s : Shared) (H : Hp) (C : Addr) (cl : List (Str × Addr)) (fp : List Addr), DTs (X.blk s H scope (compEnvC scope cl C X.env) fp) W0 ifs rdc c)
    (he : ∀ (s : Shared) (H : Hp) (C : Addr) (cl : List (Str × Addr)) (fp : List Addr), DE (X.blk s H scope (compEnvC scope cl C X.env) fp) W0 elt rdf f)
    (hs : ∀ x, foldedSetIterable iter X.env x = pure x := by intro _; rfl) : DE X W (.ListComp elt [⟨tg, iter, ifs, 0⟩] scope pos) (rdi ++ (rdc ++ rdf)) (eLc l gi t (own.map (·.2)) c f) :=
  PEi (pe_lc dx.calm dx.nd hi ok hg ht he hs) fun σ H Q h => lc_of hown h
/-- y = [..] on one line -/
theorem ds_setLc {i : Nat} {y : Str} {py spos : Pos} (dx : Dx X B.L.W k) (hy : X.N[i]? = some y) (hyl : X.env.scope.names.lookup y = some .local) (hL : B.L = lt X B.L.W)
    (hsw : swapsWith (.ListComp elt [⟨tg, iter, ifs, 0⟩] scope pos) (some (.Name y py)) spos.line X.env = pure true) (hi : DI X B.L.W tg iter rdi l gi) (ok : BlkOk X.N X.env.scope scope own) (hown : ∀ i ∈ t.slots, i ∈ own.map (·.2))
    (hg : ∀ (s : Shared) (H : Hp) (C : Addr) (cl : List (Str × Addr)) (fp : List Addr), DGv (X.blk s H scope (compEnvC scope cl C X.env) fp) tg (rdc ++ rdf) t)
    (ht : ∀ (s : Shared) (H : Hp) (C : Addr) (cl : List (Str × Addr)) (fp : List Addr), DTs (X.blk s H scope (compEnvC scope cl C X.env) fp) W0 ifs rdc c)
    (he : ∀ (s : Shared) (H : Hp) (C : Addr) (cl : List (Str × Addr)) (fp : List Addr), DE (X.blk s H scope (compEnvC scope cl C X.env) fp) W0 elt rdf f)
    (hs : ∀ x, foldedSetIterable iter X.env x = pure x := by intro _; rfl) :
    DS X B (.Assign [.Name y py] (.ListComp elt [⟨tg, iter, ifs, 0⟩] scope pos) spos) (sSet i (mE (rdi ++ (rdc ++ rdf)) (eLc l gi t (own.map (·.2)) c f))) :=
  PSi (ps_setLc dx.calm dx.nd hy hyl hsw hi ok hg ht he hs) fun D σ H ⟨ρ, fr, fvs, r, q⟩ => by
    show tLc _ _ _ _ _ σ H _
    have : tE (lt X B.L.W) (rdi ++ (rdc ++ rdf)) (eLc l gi t (own.map (·.2)) c f) σ H fun x H1 => gName i x σ H1 D.nx := by
      rw [← hL]
      refine tM_of ⟨ρ, fr, fvs, r, ?_⟩
      unfold sSet sAsg at q
      cases hm : mE (rdi ++ (rdc ++ rdf)) (eLc l gi t (own.map (·.2)) c f) ρ with
      | val d ρ' =>
        rw [hm] at q
        intro v H' r'
        simp only [Tg.put] at q
        exact q _ H' (r'.put i)
      | exc c n ρ' => rw [hm] at q; exact fun cls d H' r' x => q cls d σ H' r' x
      | stuck => rw [hm] at q; exact q
    exact lc_of hown this

/-- the new list so far -/
structure LcSt (K : PySem.W.Frag) (w : World) (Pi : Addr → Prop) (H1 : Hp) (Dd : Addr) (P' : Addr → Prop) (acc : List D) (H : Hp) : Prop where
  same : Same H1 H
  le : ∀ a, Pi a → P' a
  new : ∀ a, P' a → Pi a ∨ (H1 a = none ∧ ∃ o, H a = some o)
  st : ∃ vs as, H Dd = some (.lst vs) ∧ ¬ P' Dd ∧ Dd ∉ as ∧ Reps K w P' H acc vs as ∧ Own P' as ∧ ∀ a ∈ as, H1 a = none
section
variable {K : PySem.W.Frag} {w : World} {Pi P' P3 : Addr → Prop} {H1 H H' : Hp} {Dd : Addr} {acc : List D}
theorem LcSt.fz (z : LcSt K w Pi H1 Dd P' acc H) (fz : Fz Pi H1) : Fz P' H := fun a q => (z.new a q).elim (fun q => by obtain ⟨o, h⟩ := fz a q; exact ⟨o, z.same _ _ h⟩) fun q => q.2
theorem LcSt.grow (z : LcSt K w Pi H1 Dd P' acc H) (g : Grow P' P3 [] H H') : LcSt K w Pi H1 Dd P3 acc H' := by
  obtain ⟨vs, as, hD, np, nD, rr, ow, fr⟩ := z.st
  have new3 : ∀ a, P3 a → P' a ∨ (H a = none ∧ ∃ o, H' a = some o) := fun a q => (g.new a q).elim .inl fun q => q.elim (fun q => nomatch q) .inr
  have out : ∀ a, (∃ o, H a = some o) → ¬ P' a → ¬ P3 a := fun a ⟨o, h⟩ n q => (new3 a q).elim n fun ⟨q, _⟩ => by rw [h] at q; cases q
  refine ⟨z.same.trans g.same, fun a q => g.le a (z.le a q), fun a q => ?_, vs, as, g.same _ _ hD, out Dd ⟨_, hD⟩ np, nD, rr.mono g.same g.le, ⟨ow.nd, fun a q => out a ((rr.there a q).some) (ow.np a q)⟩, fr⟩
  rcases new3 a q with q | ⟨q, y⟩
  · rcases z.new a q with q | ⟨q, o, y⟩
    · exact .inl q
    · exact .inr ⟨q, o, g.same _ _ y⟩
  · exact .inr ⟨z.same.free q, y⟩
theorem LcSt.same' (z : LcSt K w Pi H1 Dd P' acc H) (e : Same H H') : LcSt K w Pi H1 Dd P' acc H' := z.grow (.of_same e)
theorem LcSt.app (z : LcSt K w Pi H1 Dd P' acc H) (hD1 : H1 Dd = none) {d : D} {y : V} (o : Out K w P' [] H H' d y) : ∃ vs P5, H' Dd = some (.lst vs) ∧ vs.length = acc.length ∧ Grow P' P5 [] H H' ∧ Wr P5 H' Dd ∧ LcSt K w Pi H1 Dd P5 (acc ++ [d]) (upd H' Dd (.lst (vs ++ [y]))) := by
  obtain ⟨P5, a5, g5, r5, o5, n5⟩ := o
  have z5 := z.grow g5
  obtain ⟨vs1, as1, hD0, np1, nD1, rr1, ow1, fr1⟩ := z.st
  have fr5 : ∀ a ∈ a5, H a = none := fun a q => (n5 a q).elim (fun q => nomatch q) id
  have nD5 : Dd ∉ a5 := fun q => by have := fr5 Dd q; rw [hD0] at this; cases this
  have e5 : H' Dd = some (.lst vs1) := g5.same _ _ hD0
  have rrA : Reps K w P5 H' acc vs1 as1 := rr1.mono g5.same g5.le
  have st1 : ∀ a ∈ as1, ∃ o, H a = some o := fun a q => (rr1.there a q).some
  have out : ∀ a, (∃ o, H a = some o) → ¬ P' a → ¬ P5 a := fun a ⟨o, h⟩ n q => by
    rcases g5.new a q with q | q | ⟨q, _⟩
    · exact n q
    · cases q
    · rw [h] at q; cases q
  have np : ¬ P5 Dd := out Dd ⟨_, hD0⟩ np1
  have wr : Wr P5 H' Dd := ⟨.inl ⟨_, e5⟩, np⟩
  refine ⟨vs1, P5, e5, rr1.length.symm, g5, wr, ⟨fun a o ho => ?_, z5.le, fun a q => ?_, vs1 ++ [y], as1 ++ a5, upd_same, np, fun q => (List.mem_append.mp q).elim nD1 nD5, ?_, ⟨?_, fun a q => ?_⟩, fun a q => ?_⟩⟩
  · rw [upd_ne (ne_of_none ho hD1)]; exact z5.same _ _ ho
  · rcases z5.new a q with q | ⟨q, o, yy⟩
    · exact .inl q
    · by_cases hDa : a = Dd
      · subst hDa; exact .inr ⟨q, _, upd_same⟩
      · exact .inr ⟨q, o, by rw [upd_ne hDa]; exact yy⟩
  · exact (rrA.upd wr nD1).append (by have := Reps.cons (r5.upd (o := .lst (vs1 ++ [y])) wr nD5) .nil; rw [List.append_nil] at this; exact this)
  · exact List.nodup_append.mpr ⟨ow1.nd, o5.nd, fun x hx y hy e => by
      subst e
      obtain ⟨o, ho⟩ := st1 x hx
      rw [fr5 x hy] at ho; cases ho⟩
  · rcases List.mem_append.mp q with q | q
    · exact out a (st1 a q) (ow1.np a q)
    · exact o5.np a q
  · rcases List.mem_append.mp q with q | q
    · exact fr1 a q
    · exact z.same.free (fr5 a q)
theorem View.upd1 {P : Addr → Prop} {rd : List Nat} {ρ : Env} {σ : St} {x : Addr} {o : HO} (h : View K w P H rd ρ σ) (wr : Wr P H x) : View K w P (L2.upd H x o) rd ρ σ :=
  ⟨fun a q => by obtain ⟨ob, ho⟩ := h.fz a q; exact ⟨ob, by rw [upd_ne (wr.ne q)]; exact ho⟩, h.len, fun i hi d hd => by
    obtain ⟨v, a, b⟩ := h.get i hi d hd
    exact ⟨v, a, b.upd wr (fun z => nomatch z)⟩⟩
theorem View.up {P P' : Addr → Prop} {rd : List Nat} {ρ : Env} {σ : St} (h : View K w P H rd ρ σ) (e : Same H H') (p : ∀ a, P a → P' a) (fz : Fz P' H') : View K w P' H' rd ρ σ :=
  ⟨fz, h.len, fun i hi d hd => by
    obtain ⟨v, a, b⟩ := h.get i hi d hd
    exact ⟨v, a, b.mono e p⟩⟩
end
def lcL2 (t : Tg) (c : Ev) (l1 : Lv) (gi1 : List D → Option (List D)) (own1 : List Nat) (t1 : Tg) (c1 f : Ev) (ρ : Env) : List D → LR
  | [] => .vals []
  | x :: xs => match t.put x ρ with
    | none => .stuck
    | some ρ1 => match c ρ1 with
      | .val (.bl true) => (match l1 ρ1 with
        | .vals ds => (match gi1 ds with
          | some ys => (match lcL t1 c1 f (wipeE ρ1 own1) (fzs ys) with
            | .vals es => (match lcL2 t c l1 gi1 own1 t1 c1 f ρ xs with
              | .vals rs => .vals (es ++ rs)
              | _ => .stuck)
            | _ => .stuck)
          | none => .stuck)
        | _ => .stuck)
      | .val (.bl false) => lcL2 t c l1 gi1 own1 t1 c1 f ρ xs
      | _ => .stuck
def eLc2 (l : Lv) (gi : List D → Option (List D)) (t : Tg) (own : List Nat) (c : Ev) (l1 : Lv) (gi1 : List D → Option (List D)) (t1 : Tg) (own1 : List Nat) (c1 f : Ev) : Ev := fun ρ => match l ρ with
  | .vals ds => (match gi ds with
    | some xs => (match lcL2 t c l1 gi1 own1 t1 c1 f (wipeE ρ own) (fzs xs) with
      | .vals rs => if rs.length ≤ sizeLine then .val (.lst true rs) else .stuck
      | _ => .stuck)
    | none => .stuck)
  | .exc c n => .exc c n
  | .stuck => .stuck
theorem lcL2_drop {l1 : Lv} {gi1 : List D → Option (List D)} {own1 : List Nat} {t t1 : Tg} {c c1 f : Ev} {ρ : Env} {xs : List D} {i : Nat} {x : D} (h : xs[i]? = some x) : lcL2 t c l1 gi1 own1 t1 c1 f ρ (xs.drop i) = lcL2 t c l1 gi1 own1 t1 c1 f ρ (x :: xs.drop (i + 1)) := by
  rw [List.drop_eq_getElem_cons (List.getElem?_eq_some_iff.mp h).1, (List.getElem?_eq_some_iff.mp h).2]
/-- what a value walked comes to -/
theorem ItOk.item {K : PySem.W.Frag} {w : World} {J : It} {fd : List D} {fv : List V} {xs : List D} (ok : ItOk K w J fd fv xs) {P : Addr → Prop} {H : Hp} (fz : Fz P H) (rr : Reps K w P H fd fv []) {i : Nat} {x : D} (hx : xs[i]? = some x) :
    J.go i H ∧ ∀ v H', J.yld i H v H' → ∃ P3, Grow P P3 [] H H' ∧ Rep K w P3 H' x.fz v [] := by
  obtain ⟨a, b⟩ := (ok P H fz rr i).1 x hx
  refine ⟨a, fun v H' y => ?_⟩
  obtain ⟨P3, a3, g3, r3, o3, n3⟩ := b v H' y
  have : a3 = [] := Rep.fz_nil (d := x) r3
  subst this
  exact ⟨P3, g3, r3⟩
theorem lc2_of {L : Lt} {own own1 : List Nat} (hown : ∀ i ∈ t.slots, i ∈ own) (hown1 : ∀ i ∈ t1.slots, i ∈ own1) (h1own : ∀ i ∈ own1, i ∈ own) {σ : St} {H : Hp} {Q : VK}
    (h : tE L (rdi ++ (rdc ++ (rdi1 ++ (rdc1 ++ rdf)))) (eLc2 l gi t own c l1 gi1 t1 own1 c1 f) σ H Q) :
    tLc2 (tI L rdi l gi) (tGv L.K L.w (rdc ++ (rdi1 ++ (rdc1 ++ rdf))) t) (tT ⟨L.K, L.w, L.mg, W0⟩ rdc c) (tI ⟨L.K, L.w, L.mg, W0⟩ rdi1 l1 gi1) (tGv L.K L.w (rdc1 ++ rdf) t1) (tT ⟨L.K, L.w, L.mg, W0⟩ rdc1 c1) (tE ⟨L.K, L.w, L.mg, W0⟩ rdf f) own own1 σ H Q := by
  obtain ⟨ρ, P, vw, q⟩ := h
  refine ⟨ρ, P, vw.left, ?_⟩
  unfold eLc2 at q
  cases hl : l ρ with
  | exc c n => rw [hl] at q; exact q
  | stuck => rw [hl] at q; exact q
  | vals ds =>
    rw [hl] at q
    cases hx : gi ds with
    | none => simp only [hx] at q
    | some xs =>
      simp only [hx] at q ⊢
      cases hL : lcL2 t c l1 gi1 own1 t1 c1 f (wipeE ρ own) (fzs xs) with
      | exc c n => simp only [hL] at q
      | stuck => simp only [hL] at q
      | vals rs =>
        simp only [hL] at q
        by_cases hz : rs.length ≤ sizeLine
        · simp only [hz, if_true] at q
          intro J fvs gd gv H1 o gh ok Dd hD
          obtain ⟨P1, a1, g1, rr1, ow1, n1⟩ := o
          have th1 : ∀ a ∈ a1, ∃ o, H1 a = some o := fun a z => (rr1.there a z).some
          have rrf : Reps L.K L.w (fun a => P1 a ∨ a ∈ a1) H1 (fzs ds) fvs [] := rr1.fz (fun _ z => .inl z) (fun _ z => .inr z)
          have gi1' : Grow P (fun a => P1 a ∨ a ∈ a1) [] H H1 := ⟨g1.same, fun a z => .inl (g1.le a z), fun a z => z.elim (g1.new a) fun z => .inr (.inr ⟨(n1 a z).elim (fun z => nomatch z) id, th1 a z⟩)⟩
          generalize hPi : (fun a => P1 a ∨ a ∈ a1) = Pi at rrf gi1'
          have fzi : Fz Pi H1 := gi1'.fz vw.fz (fun _ z => nomatch z)
          have vwi : View L.K L.w Pi H1 (rdc ++ (rdi1 ++ (rdc1 ++ rdf))) (wipeE ρ own) (L2.wipe σ own) := (vw.right.grow gi1' (fun _ z => nomatch z)).wipe own
          have npD : ¬ Pi Dd := fun z => by obtain ⟨o, ho⟩ := fzi Dd z; rw [hD] at ho; cases ho
          have z0 : LcSt L.K L.w Pi H1 Dd Pi [] (upd H1 Dd (.lst [])) := ⟨same_new hD, fun _ z => z, fun _ z => .inl z, [], [], upd_same, npD, (fun z => nomatch z), .nil, .nil, fun _ z => nomatch z⟩
          have lx : (fzs xs).length = xs.length := by rw [fzs_eq, List.length_map]
          refine ⟨fun i m H2 => m = (fzs xs).length - i ∧ i ≤ (fzs xs).length ∧ ∃ P' acc rest, LcSt L.K L.w Pi H1 Dd P' acc H2 ∧ lcL2 t c l1 gi1 own1 t1 c1 f (wipeE ρ own) ((fzs xs).drop i) = .vals rest ∧ acc ++ rest = rs, ⟨_, rfl, Nat.zero_le _, Pi, [], rs, z0, by simpa using hL, rfl⟩, ?_⟩
          rintro i m H2 ⟨rfl, hi, P', acc, rest, z, hrest, hall⟩
          have fz' := z.fz fzi
          have rrP := (gh Pi rrf).mono z.same z.le
          by_cases hlt : i < xs.length
          · obtain ⟨x, hx'⟩ : ∃ x, xs[i]? = some x := ⟨xs[i], List.getElem?_eq_getElem hlt⟩
            rw [lcL2_drop (fzs_get hx')] at hrest
            unfold lcL2 at hrest
            cases ht : t.put x.fz (wipeE ρ own) with
            | none => simp only [ht] at hrest; cases hrest
            | some ρ1 =>
            simp only [ht] at hrest
            obtain ⟨go, yl⟩ := ok.item fz' rrP hx'
            refine .inr ⟨go, fun H5 => ∃ P' acc rest, LcSt L.K L.w Pi H1 Dd P' acc H5 ∧ lcL2 t c l1 gi1 own1 t1 c1 f (wipeE ρ own) ((fzs xs).drop (i + 1)) = .vals rest ∧ acc ++ rest = rs, fun H5 z => ⟨_, by rw [lx]; omega, rfl, by rw [lx]; omega, z⟩, fun v H3 y => ?_⟩
            obtain ⟨P3, g3, r3⟩ := yl v H3 y
            have z3 := z.grow g3
            have vw3 := vwi.up (z3.same) z3.le (z3.fz fzi)
            refine ⟨wipeE ρ own, P3, x.fz, vw3, r3, ?_⟩
            rw [ht]
            intro σ2 kσ vwσ
            refine ⟨?_, ρ1, P3, vwσ.sub (fun i hi => List.mem_append_right _ (List.mem_append_left _ hi)), ?_⟩
            · apply List.ext_getElem?
              intro j
              by_cases hj : j ∈ own
              · rw [wipe_in hj (by rw [← vwσ.len, Tg.put_len ht, wipeE_length, vw.len]), wipe_in hj rfl]
              · rw [wipe_keep hj, kσ j (fun z => hj (hown j z)), wipe_keep hj]
            · cases hc : c ρ1 with
              | val dc =>
                cases dc with
                | bl b =>
                  simp only [hc] at hrest
                  intro H4 e4
                  have z4 := z3.same' e4
                  cases b with
                  | false =>
                    simp only [Bool.false_eq_true, if_false]
                    simp only at hrest
                    exact ⟨P3, acc, rest, z4, hrest, hall⟩
                  | true =>
                    simp only [if_true]
                    simp only at hrest
                    refine ⟨ρ1, P3, (vwσ.sub (fun i hi => List.mem_append_right _ (List.mem_append_right _ (List.mem_append_left _ hi)))).same e4, ?_⟩
                    cases hl1 : l1 ρ1 with
                    | exc c n => simp only [hl1] at hrest; cases hrest
                    | stuck => simp only [hl1] at hrest; cases hrest
                    | vals ds1 =>
                    simp only [hl1] at hrest
                    cases hg1 : gi1 ds1 with
                    | none => simp only [hg1] at hrest; cases hrest
                    | some ys =>
                    simp only [hg1] at hrest ⊢
                    cases hes : lcL t1 c1 f (wipeE ρ1 own1) (fzs ys) with
                    | exc c n => simp only [hes] at hrest; cases hrest
                    | stuck => simp only [hes] at hrest; cases hrest
                    | vals es =>
                    simp only [hes] at hrest
                    cases hr2 : lcL2 t c l1 gi1 own1 t1 c1 f (wipeE ρ own) ((fzs xs).drop (i + 1)) with
                    | exc c n => simp only [hr2] at hrest; cases hrest
                    | stuck => simp only [hr2] at hrest; cases hrest
                    | vals rest2 =>
                    simp only [hr2] at hrest
                    cases hrest
                    intro J1 fvs1 gd1 gv1 H5 o5 gh1 ok1
                    obtain ⟨P5, a5, g5, rr5, ow5, n5⟩ := o5
                    have th5 : ∀ a ∈ a5, ∃ o, H5 a = some o := fun a z => (rr5.there a z).some
                    have rrf5 : Reps L.K L.w (fun a => P5 a ∨ a ∈ a5) H5 (fzs ds1) fvs1 [] := rr5.fz (fun _ z => .inl z) (fun _ z => .inr z)
                    have gi5 : Grow P3 (fun a => P5 a ∨ a ∈ a5) [] H4 H5 := ⟨g5.same, fun a z => .inl (g5.le a z), fun a z => z.elim (g5.new a) fun z => .inr (.inr ⟨(n5 a z).elim (fun z => nomatch z) id, th5 a z⟩)⟩
                    generalize hPj : (fun a => P5 a ∨ a ∈ a5) = Pj at rrf5 gi5
                    have z5 := z4.grow gi5
                    have vw5 : View L.K L.w Pj H5 (rdc1 ++ rdf) (wipeE ρ1 own1) (L2.wipe σ2 own1) := ((vwσ.sub (fun i hi => List.mem_append_right _ (List.mem_append_right _ (List.mem_append_right _ hi)))).up (e4.trans gi5.same) gi5.le (z5.fz fzi)).wipe own1
                    have ly : (fzs ys).length = ys.length := by rw [fzs_eq, List.length_map]
                    have fz5 := z5.fz fzi
                    refine ⟨fun j k H6 => k = (fzs ys).length - j ∧ j ≤ (fzs ys).length ∧ ∃ P' acc1 rest1, LcSt L.K L.w Pi H1 Dd P' acc1 H6 ∧ View L.K L.w P' H6 (rdc1 ++ rdf) (wipeE ρ1 own1) (L2.wipe σ2 own1) ∧ Reps L.K L.w P' H6 (fzs gd1) gv1 [] ∧
                      lcL t1 c1 f (wipeE ρ1 own1) ((fzs ys).drop j) = .vals rest1 ∧ acc1 ++ rest1 = acc ++ es, ⟨_, rfl, Nat.zero_le _, Pj, acc, es, z5, vw5, gh1 Pj rrf5, by simpa using hes, rfl⟩, ?_⟩
                    rintro j k H6 ⟨rfl, hj, P6, acc1, rest1, z6, vw6, rrP6, hrest1, hall1⟩
                    have fz6 := z6.fz fzi
                    by_cases hltj : j < ys.length
                    · obtain ⟨yx, hy'⟩ : ∃ x, ys[j]? = some x := ⟨ys[j], List.getElem?_eq_getElem hltj⟩
                      rw [lcL_drop (fzs_get hy')] at hrest1
                      unfold lcL at hrest1
                      cases ht1 : t1.put yx.fz (wipeE ρ1 own1) with
                      | none => simp only [ht1] at hrest1; cases hrest1
                      | some ρ2 =>
                      simp only [ht1] at hrest1
                      obtain ⟨go1, yl1⟩ := ok1.item fz6 rrP6 hy'
                      refine .inr ⟨go1, fun H9 => ∃ P' acc1 rest1, LcSt L.K L.w Pi H1 Dd P' acc1 H9 ∧ View L.K L.w P' H9 (rdc1 ++ rdf) (wipeE ρ1 own1) (L2.wipe σ2 own1) ∧ Reps L.K L.w P' H9 (fzs gd1) gv1 [] ∧
                        lcL t1 c1 f (wipeE ρ1 own1) ((fzs ys).drop (j + 1)) = .vals rest1 ∧ acc1 ++ rest1 = acc ++ es, fun H9 z => ⟨_, by rw [ly]; omega, rfl, by rw [ly]; omega, z⟩, fun v H7 y7 => ?_⟩
                      obtain ⟨P7, g7, r7⟩ := yl1 v H7 y7
                      have z7 := z6.grow g7
                      have vw7 := vw6.up g7.same g7.le (z7.fz fzi)
                      have rr7 := rrP6.mono g7.same g7.le
                      refine ⟨wipeE ρ1 own1, P7, yx.fz, vw7, r7, ?_⟩
                      rw [ht1]
                      intro σ3 kσ3 vwσ3
                      refine ⟨?_, ρ2, P7, vwσ3.sub (fun i hi => List.mem_append_right _ (List.mem_append_left _ hi)), ?_⟩
                      · apply List.ext_getElem?
                        intro j
                        by_cases hj : j ∈ own1
                        · rw [wipe_in hj (by rw [← vwσ3.len, Tg.put_len ht1, wipeE_length, vwσ.len]), wipe_in hj rfl]
                        · rw [wipe_keep hj, kσ3 j (fun z => hj (hown1 j z)), wipe_keep hj]
                      · cases hc1 : c1 ρ2 with
                        | val dc1 =>
                          cases dc1 with
                          | bl b1 =>
                            simp only [hc1] at hrest1
                            intro H8 e8
                            have z8 := z7.same' e8
                            cases b1 with
                            | false =>
                              simp only [Bool.false_eq_true, if_false]
                              simp only at hrest1
                              exact ⟨P7, acc1, rest1, z8, vw7.same e8, rr7.mono e8 fun _ z => z, hrest1, hall1⟩
                            | true =>
                              simp only [if_true]
                              simp only at hrest1
                              cases hf : f ρ2 with
                              | exc c n => simp only [hf] at hrest1; cases hrest1
                              | stuck => simp only [hf] at hrest1; cases hrest1
                              | val d =>
                              simp only [hf] at hrest1
                              cases hr3 : lcL t1 c1 f (wipeE ρ1 own1) ((fzs ys).drop (j + 1)) with
                              | exc c n => simp only [hr3] at hrest1; cases hrest1
                              | stuck => simp only [hr3] at hrest1; cases hrest1
                              | vals rest3 =>
                              simp only [hr3] at hrest1
                              cases hrest1
                              refine ⟨ρ2, P7, (vwσ3.sub (fun i hi => List.mem_append_right _ (List.mem_append_right _ hi))).same e8, ?_⟩
                              rw [hf]
                              intro yv H9 o9
                              obtain ⟨vs9, P9, hD9, hl9, g9, wr9, z9⟩ := z8.app hD o9
                              refine ⟨vs9, hD9, ?_, P9, acc1 ++ [d], rest3, z9, ((vw7.same e8).up g9.same g9.le (g9.fz (z8.fz fzi) (fun _ z => nomatch z))).upd1 wr9, ((rr7.mono e8 fun _ z => z).mono g9.same g9.le).upd wr9 (fun z => nomatch z), rfl, by rw [← hall1]; simp⟩
                              have e1 : rs.length = acc.length + (es.length + rest2.length) := by rw [← hall]; simp
                              have e2 : acc1.length + (rest3.length + 1) = acc.length + es.length := by have := congrArg List.length hall1; simpa using this
                              omega
                          | _ => simp only [hc1] at hrest1; cases hrest1
                        | exc c n => simp only [hc1] at hrest1; cases hrest1
                        | stuck => simp only [hc1] at hrest1; cases hrest1
                    · have hdr : (fzs ys).drop j = [] := List.drop_eq_nil_iff.mpr (by rw [ly]; omega)
                      rw [hdr] at hrest1
                      unfold lcL at hrest1
                      cases hrest1
                      rw [List.append_nil] at hall1
                      subst hall1
                      exact .inl ⟨(ok1 P6 H6 fz6 rrP6 j).2 (by omega), P6, _, rest2, z6, rfl, by rw [← hall, List.append_assoc]⟩
                | _ => simp only [hc] at hrest; cases hrest
              | exc c n => simp only [hc] at hrest; cases hrest
              | stuck => simp only [hc] at hrest; cases hrest
          · have hdr : (fzs xs).drop i = [] := List.drop_eq_nil_iff.mpr (by rw [lx]; omega)
            rw [hdr] at hrest
            unfold lcL2 at hrest
            cases hrest
            rw [List.append_nil] at hall
            subst hall
            obtain ⟨vs, as, hDv, npD', nDa, racc, ow, fra⟩ := z.st
            refine .inl ⟨(ok P' H2 fz' rrP i).2 (by omega), q _ _ ⟨P', Dd :: as, ⟨g1.same.trans z.same, fun a y => z.le a (gi1'.le a y), fun a y => ?_⟩, .lstO hDv racc, ⟨List.nodup_cons.mpr ⟨nDa, ow.nd⟩, fun a y => ?_⟩, fun a y => .inr ?_⟩⟩
            · rcases z.new a y with y | ⟨y, o, k⟩
              · rcases gi1'.new a y with y | y | ⟨y, o, k⟩
                · exact .inl y
                · cases y
                · exact .inr (.inr ⟨y, o, z.same _ _ k⟩)
              · exact .inr (.inr ⟨g1.same.free y, o, k⟩)
            · rcases List.mem_cons.mp y with rfl | y
              · exact npD'
              · exact ow.np a y
            · rcases List.mem_cons.mp y with rfl | y
              · exact g1.same.free hD
              · exact g1.same.free (fra a y)
        · simp only [hz, if_false] at q

theorem de_lc2 {own1 : List Nat} (dx : Dx X W k) (hi : DI X W tg iter rdi l gi) (ok : BlkOk X.N X.env.scope scope own) (hown : ∀ i ∈ t.slots, i ∈ own.map (·.2)) (hown1 : ∀ i ∈ t1.slots, i ∈ own1) (h1own : ∀ i ∈ own1, i ∈ own.map (·.2))
    (hg : ∀ (s : Shared) (H : Hp) (C : Addr) (cl : List (Str × Addr)) (fp : List Addr), DGv (X.blk s H scope (compEnvC scope cl C X.env) fp) tg (rdc ++ (rdi1 ++ (rdc1 ++ rdf))) t)
    (ht : ∀ (s : Shared) (H : Hp) (C : Addr) (cl : List (Str × Addr)) (fp : List Addr), DTs (X.blk s H scope (compEnvC scope cl C X.env) fp) W0 ifs rdc c)
    (hi1 : ∀ (s : Shared) (H : Hp) (C : Addr) (cl : List (Str × Addr)) (fp : List Addr), DI (X.blk s H scope (compEnvC scope cl C X.env) fp) W0 tg1 iter1 rdi1 l1 gi1)
    (hg1 : ∀ (s : Shared) (H : Hp) (C : Addr) (cl : List (Str × Addr)) (fp : List Addr), DGv (X.blk s H scope (compEnvC scope cl C X.env) fp) tg1 (rdc1 ++ rdf) t1)
    (ht1 : ∀ (s : Shared) (H : Hp) (C : Addr) (cl : List (Str × Addr)) (fp : List Addr), DTs (X.blk s H scope (compEnvC scope cl C X.env) fp) W0 ifs1 rdc1 c1)
    (he : ∀ (s : Shared) (H : Hp) (C : Addr) (cl : List (Str × Addr)) (fp : List Addr), DE (X.blk s H scope (compEnvC scope cl C X.env) fp) W0 elt rdf f)
    (hs : ∀ x, foldedSetIterable iter X.env x = pure x := by intro _; rfl) (hs1 : ∀ env x, foldedSetIterable iter1 env x = pure x := by intro _ _; rfl) :
    DE X W (.ListComp elt [⟨tg, iter, ifs, 0⟩, ⟨tg1, iter1, ifs1, 0⟩] scope pos) (rdi ++ (rdc ++ (rdi1 ++ (rdc1 ++ rdf)))) (eLc2 l gi t (own.map (·.2)) c l1 gi1 t1 own1 c1 f) :=
  PEi (pe_lc2 dx.calm dx.nd hi ok h1own hg ht hi1 hg1 ht1 he hs hs1) fun σ H Q h => lc2_of hown hown1 h1own h
theorem ds_setLc2 {own1 : List Nat} {i : Nat} {y : Str} {py spos : Pos} (dx : Dx X B.L.W k) (hy : X.N[i]? = some y) (hyl : X.env.scope.names.lookup y = some .local) (hL : B.L = lt X B.L.W)
    (hsw : swapsWith (.ListComp elt [⟨tg, iter, ifs, 0⟩, ⟨tg1, iter1, ifs1, 0⟩] scope pos) (some (.Name y py)) spos.line X.env = pure true) (hi : DI X B.L.W tg iter rdi l gi) (ok : BlkOk X.N X.env.scope scope own) (hown : ∀ i ∈ t.slots, i ∈ own.map (·.2)) (hown1 : ∀ i ∈ t1.slots, i ∈ own1) (h1own : ∀ i ∈ own1, i ∈ own.map (·.2))
    (hg : ∀ (s : Shared) (H : Hp) (C : Addr) (cl : List (Str × Addr)) (fp : List Addr), DGv (X.blk s H scope (compEnvC scope cl C X.env) fp) tg (rdc ++ (rdi1 ++ (rdc1 ++ rdf))) t)
    (ht : ∀ (s : Shared) (H : Hp) (C : Addr) (cl : List (Str × Addr)) (fp : List Addr), DTs (X.blk s H scope (compEnvC scope cl C X.env) fp) W0 ifs rdc c)
    (hi1 : ∀ (s : Shared) (H : Hp) (C : Addr) (cl : List (Str × Addr)) (fp : List Addr), DI (X.blk s H scope (compEnvC scope cl C X.env) fp) W0 tg1 iter1 rdi1 l1 gi1)
    (hg1 : ∀ (s : Shared) (H : Hp) (C : Addr) (cl : List (Str × Addr)) (fp : List Addr), DGv (X.blk s H scope (compEnvC scope cl C X.env) fp) tg1 (rdc1 ++ rdf) t1)
    (ht1 : ∀ (s : Shared) (H : Hp) (C : Addr) (cl : List (Str × Addr)) (fp : List Addr), DTs (X.blk s H scope (compEnvC scope cl C X.env) fp) W0 ifs1 rdc1 c1)
    (he : ∀ (s : Shared) (H : Hp) (C : Addr) (cl : List (Str × Addr)) (fp : List Addr), DE (X.blk s H scope (compEnvC scope cl C X.env) fp) W0 elt rdf f)
    (hs : ∀ x, foldedSetIterable iter X.env x = pure x := by intro _; rfl) (hs1 : ∀ env x, foldedSetIterable iter1 env x = pure x := by intro _ _; rfl) :
    DS X B (.Assign [.Name y py] (.ListComp elt [⟨tg, iter, ifs, 0⟩, ⟨tg1, iter1, ifs1, 0⟩] scope pos) spos) (sSet i (mE (rdi ++ (rdc ++ (rdi1 ++ (rdc1 ++ rdf)))) (eLc2 l gi t (own.map (·.2)) c l1 gi1 t1 own1 c1 f))) :=
  PSi (ps_setLc2 dx.calm dx.nd hy hyl hsw hi ok h1own hg ht hi1 hg1 ht1 he hs hs1) fun D σ H ⟨ρ, fr, fvs, r, q⟩ => by
    show tLc2 _ _ _ _ _ _ _ _ _ σ H _
    have : tE (lt X B.L.W) (rdi ++ (rdc ++ (rdi1 ++ (rdc1 ++ rdf)))) (eLc2 l gi t (own.map (·.2)) c l1 gi1 t1 own1 c1 f) σ H fun x H1 => gName i x σ H1 D.nx := by
      rw [← hL]
      refine tM_of ⟨ρ, fr, fvs, r, ?_⟩
      unfold sSet sAsg at q
      cases hm : mE (rdi ++ (rdc ++ (rdi1 ++ (rdc1 ++ rdf)))) (eLc2 l gi t (own.map (·.2)) c l1 gi1 t1 own1 c1 f) ρ with
      | val d ρ' =>
        rw [hm] at q
        intro v H' r'
        simp only [Tg.put] at q
        exact q _ H' (r'.put i)
      | exc c n ρ' => rw [hm] at q; exact fun cls d H' r' x => q cls d σ H' r' x
      | stuck => rw [hm] at q; exact q
    exact lc2_of hown hown1 h1own this
end
end DL

set_option Elab.async false
set_option linter.all false
set_option maxRecDepth 100000
namespace PySem
set_option maxHeartbeats 1000000 in
theorem meets_enum1B {v : Value} {o : Obj} {H : Heap → Prop} (B : Begins v o H) :
    Meets (Builtin.«enumerate.__new__» ⟨[.type "enumerate", v], []⟩) (fun _ R s => H s.heap ∧
      R (.ok (.ret (.ref (s.heap.push o).objs.size))) { s with heap := (s.heap.push o).push { cls := .type "enumerate", data := .fields #[.none, .bool false, .ref s.heap.objs.size, rawInt 0, .none, .none] } }) :=
  .of_wp fun prog w A R s h => by
    obtain ⟨hp, g, d, tk, os⟩ := s; obtain ⟨h1, h⟩ := h
    have hsub := sub_enumerate
    have q1 : ∀ {A' : Around} {E : Value → Shared → Prop} {Q : Value → Shared → Prop}, Q (.ref hp.objs.size) ⟨hp.push o, g, d, tk, os⟩ → wpAny (model prog w) A' (pyIter v) Q E ⟨hp, g, d, tk, os⟩ :=
      fun q => B.iter prog w _ _ ⟨hp, g, d, tk, os⟩ _ h1 q
    wp_walk using q1
    refine wpAny_stack_any fun st => wpAny_pure ?_
    split
    · rename_i c _ _ _ _ _
      cases (c == Value.type "enumerate")
      · wp_walk using q1
        exact ⟨_, rfl, h⟩
      · wp_walk using q1
        exact ⟨_, rfl, h⟩
    · wp_walk using q1
      exact ⟨_, rfl, h⟩
theorem enum1_begins {prog : Program} {w : World} {A : Around} {E : Value → Shared → Prop} {s : Shared} {v : Value} {o : Obj} {H : Heap → Prop} {Q : Value → Shared → Prop} (B : Begins v o H) (h1 : H s.heap)
    (h : ∀ h', IsEnum h' (s.heap.objs.size + 1) s.heap.objs.size 0 .none → h'.get? s.heap.objs.size = some o → h'.objs.size = s.heap.objs.size + 2 →
      (∀ b o, s.heap.get? b = some o → h'.get? b = some o) → Q (.ref (s.heap.objs.size + 1)) { s with heap := h' }) :
    wpAny (model prog w) A (call (.type "enumerate") [v]) Q E s := by
  refine callType_new F.called_enumerate (by decide) (F.typeCall_enumerate_1 _) (F.newCall_enumerate_1 _) (fun obj => F.args_object_init_2 obj _) F.entry_enumerate_new (meets_enum1B B) ⟨h1, ?_⟩
  have hz : (s.heap.push o).objs.size = s.heap.objs.size + 1 := Heap.size_push ..
  show _ ∧ _
  rw [hz]
  have he : IsEnum ((s.heap.push o).push { cls := .type "enumerate", data := .fields #[.none, .bool false, .ref s.heap.objs.size, rawInt 0, .none, .none] }) (s.heap.objs.size + 1) s.heap.objs.size 0 .none := by
    have := Heap.get?_push_size (s.heap.push o) (o := { cls := .type "enumerate", data := .fields #[.none, .bool false, .ref s.heap.objs.size, rawInt 0, .none, .none] }) rfl
    rw [hz] at this; exact this
  refine ⟨⟨_, he, rfl⟩, h _ he (Heap.get?_push_of_some _ (Heap.get?_push_size _ B.free)) (by rw [Heap.size_push, hz]) fun b o x => Heap.get?_push_of_some _ (Heap.get?_push_of_some _ x)⟩
end PySem

namespace DL
open PySem PySem.Spec L2
open PyProof.Rows hiding St

abbrev itA (b : Bool) (h : Heap) (it a : Addr) (i : Nat) : Prop := match b with
  | true => h.IsListIter it a i
  | false => h.IsTupleIter it a i
abbrev srcA (b : Bool) (h : Heap) (a : Addr) (items : Array Value) : Prop := match b with
  | true => h.IsList a items
  | false => h.IsTuple a items
abbrev SqK (b : Bool) (K : PySem.W.Frag) (H : Hp) (a : Addr) (xs : List V) : Prop := match b with
  | true => SqL K H a xs
  | false => SqT K H a xs
abbrev obA (b : Bool) (a : Addr) : Obj := match b with
  | true => { cls := .type "list_iterator", data := .fields #[.ref a, .int 0 0] }
  | false => { cls := .type "tuple_iterator", data := .fields #[.ref a, .int 0 0] }
theorem beginsA : ∀ (b : Bool) (a : Addr) (items : Array Value), Begins (.ref a) (obA b a) fun h => srcA b h a items
  | true, a, items => begins_list a items
  | false, a, items => begins_tuple a items
theorem drawsA {prog : Program} {w : World} {A : Around} (hh : A.handled = none) : ∀ (b : Bool) (it a : Addr) (hne : a ≠ it) (items : Array Value),
    Draws prog w A it [it, a] items.size (fun i v => items[i]? = some v) (fun i h => itA b h it a i ∧ srcA b h a items)
  | true, it, a, hne, items => .list hh it a hne items
  | false, it, a, hne, items => .tuple hh it a hne items
theorem itA_at {b : Bool} {h h' : Heap} {it a : Addr} {i : Nat} (x : itA b h it a i) (k : ∀ o, h.get? it = some o → h'.get? it = some o) : itA b h' it a i := by
  cases b
  · exact Heap.IsTupleIter.at x k
  · exact Heap.IsListIter.at x k
theorem itA_obj {b : Bool} {h : Heap} {it a : Addr} {i : Nat} (x : itA b h it a i) : ∃ o, h.get? it = some o ∧ ∀ v, o.data ≠ .cell v := by
  cases b <;> (obtain ⟨o, e, _, d⟩ := x; exact ⟨o, e, fun v z => by rw [d] at z; cases z⟩)
theorem itA_new (b : Bool) (h : Heap) (it a : Addr) (e : h.get? it = some (obA b a)) : itA b h it a 0 := by
  cases b <;> exact ⟨_, e, rfl, rfl⟩
section
variable {X : Cx} {pins : List (Addr × Obj)} {σ : St} {H : Hp} {s : Shared} {a : Addr} {xs ys : List V}
theorem srcOf {b : Bool} (I : Inv X pins σ H s) (h : SqK b X.K H a xs) : ∃ its : List Value, Vals xs its ∧ srcA b s.heap a its.toArray ∧ a < s.heap.objs.size := by
  cases b
  · obtain ⟨its, r, p, z⟩ := I.tuple h
    obtain ⟨o, e, _⟩ := id p
    exact ⟨its, r, p, Heap.lt_size e⟩
  · obtain ⟨its, r, p, z⟩ := I.list h
    exact ⟨its, r, p.isList, p.lt⟩
theorem sqk_inj {b : Bool} (I : Inv X pins σ H s) (h : SqK b X.K H a xs) (h' : SqK b X.K H a ys) : xs = ys := by
  cases b
  · exact I.tuple_inj h h'
  · exact I.list_inj h h'
end

def ItE (b : Bool) (K : PySem.W.Frag) (a : Addr) : It :=
  ⟨fun i H => ∃ (xs : List V) (x : V), SqK b K H a xs ∧ xs[i]? = some x, fun i H v H' => ∃ T x, v = .ref T ∧ H T = none ∧ H' = upd H T (.tup [.int (i : Nat), x]) ∧ ∀ xs, SqK b K H a xs → xs[i]? = some x, fun i H => ∃ xs : List V, SqK b K H a xs ∧ i = xs.length⟩
theorem turn_enumA {P : Program} {w : World} {K : PySem.W.Frag} {elts : List Expr} {kk : Nat} {tpos : Pos} (b : Bool) (a e it : Addr) (hea : e ≠ a) (hai : a ≠ it) :
    Turn P w K (.Tuple elts kk tpos) (ItE b K a) [e, it] e (fun i h => (∃ old, IsEnum h e it ((i : Nat) : Int) old) ∧ itA b h it a i ∧ e ≠ it) where
  mem := by simp
  obj := fun i h st c hc => by
    obtain ⟨⟨old, he⟩, hi, _⟩ := st
    have e' : c = e ∨ c = it := by simpa using hc
    rcases e' with z | z
    · rw [z]; exact ⟨_, he, fun v q => nomatch q⟩
    · rw [z]; exact itA_obj hi
  keep := fun i h h' st k => let ⟨⟨old, he⟩, hi, hne⟩ := st; ⟨⟨old, k e (by simp) _ he⟩, itA_at hi fun o q => k it (by simp) o q, hne⟩
  item := by
    intro X hP hw hK hc i pins s σ H E I hf st hg
    subst hP hw hK
    obtain ⟨⟨old, he⟩, hit, hne⟩ := st
    obtain ⟨xs, x, hq, hx⟩ := hg
    obtain ⟨its, rv, p, hz⟩ := srcOf I hq
    obtain ⟨u, hu, ru⟩ := rv.get hx
    have hel : e < s.heap.objs.size := Heap.lt_size he
    have hil : it < s.heap.objs.size := by obtain ⟨_, q, _⟩ := itA_obj hit; exact Heap.lt_size q
    have hlt : i < its.toArray.size := by
      have := rv.length
      have := (List.getElem?_eq_some_iff.mp hx).1
      simp; omega
    refine wpAny_pyNext_enum_itemD (drawsA (prog := X.prog) (w := X.w) (A := X.A.in1) (I.ok.hd hc) b it a hai its.toArray) he ⟨hit, p⟩ hlt hne (by simp [hne, hea]) fun y h' tk hP ho st' hT hsz hk => ?_
    have hy : y = u := by
      have h1 : its.toArray[i]? = some y := hP
      have h2 : its.toArray[i]? = some u := by simpa using hu
      rw [h1] at h2; exact Option.some.inj h2
    subst hy
    refine ⟨_, rfl, wpAny_letOwnedTupleGo_enum (s := { s with heap := h', toks := tk + 1 }) ho fun h'' he' sb => ?_⟩
    have hT2 : h''.get? s.heap.objs.size = some { cls := .type "tuple", data := .seq #[.int i tk, y] } := (sb.2 _ (Nat.ne_of_gt hel)).trans hT
    have new : ObjOk X.prog X.w (upd H s.heap.objs.size (.tup [.int (i : Nat), x])) h'' s.heap.objs.size (.tup [.int (i : Nat), x]) :=
      ⟨by show 2 ≤ sizeLine; decide, [.int i tk, y], .cons ⟨_, rfl⟩ (.cons ru .nil), ⟨_, hT2, rfl, _, rfl⟩⟩
    have I1 : Inv X pins σ (upd H s.heap.objs.size (.tup [.int (i : Nat), x])) { s with heap := h'', toks := tk + 1 } :=
      I.turnedNew (ch := [e, it]) (fun b ob hb q => (sb.2 b (fun z => hb (by simp [z]))).trans (hk b ob (fun z => hb (by simp [z])) (fun z => hb (by simp [z])) q)) hf (Nat.le_refl _) new
    refine ⟨.ref s.heap.objs.size, _, I1, rfl, ⟨_, x, rfl, I.hok.fresh (Nat.le_refl _), rfl, fun ys hy => by rw [sqk_inj I hy hq]; exact hx⟩, ⟨⟨y, ?_⟩, itA_at st'.1 fun o q => (sb.2 it (Ne.symm hne)).trans q, hne⟩, fun b hb => ?_⟩
    · have e1 : ((i + 1 : Nat) : Int) = (i : Int) + 1 := by omega
      rw [e1]; exact he'
    · have hb' : b < s.heap.objs.size := by
        have e' : b = e ∨ b = it := by simpa using hb
        rcases e' with z | z
        · rw [z]; exact hel
        · rw [z]; exact hil
      rw [upd_ne (Nat.ne_of_lt hb')]
      exact (hf b hb).1
  done := by
    intro X hP hw hK hc i pins s σ H E I hf st hg
    subst hP hw hK
    obtain ⟨⟨old, he⟩, hit, hne⟩ := st
    obtain ⟨xs, hq, hx⟩ := hg
    obtain ⟨its, rv, p, hz⟩ := srcOf I hq
    obtain ⟨f0, f1, f2, f3, f4, f5⟩ := hf it (by simp)
    have hl := rv.length
    have e1 : i = its.toArray.size := by simp; omega
    refine wpAny_pyNext_enum_endD (drawsA (prog := X.prog) (w := X.w) (A := X.A.in1) (I.ok.hd hc) b it a hai its.toArray) he (by rw [← e1]; exact ⟨hit, p⟩) fun h' eb => ⟨rfl, I.turned (t' := s.toks) (fun b o hb q => eb b o hb q) f0 f1 f3 f4 f5⟩
  self := fun A i s Q E st h => let ⟨⟨_, he⟩, _⟩ := st; wpAny_pyIter_enum he h
end DL

set_option Elab.async false
set_option linter.all false
set_option maxRecDepth 100000
namespace DL
open PySem PySem.Spec L2
open PyProof.Rows hiding St

def ItZ (b c : Bool) (K : PySem.W.Frag) (a d : Addr) : It :=
  ⟨fun i H => ∃ (xs ys : List V) (x y : V), SqK b K H a xs ∧ SqK c K H d ys ∧ xs[i]? = some x ∧ ys[i]? = some y,
    fun i H v H' => ∃ T x y, v = .ref T ∧ H T = none ∧ H' = upd H T (.tup [x, y]) ∧ (∀ xs, SqK b K H a xs → xs[i]? = some x) ∧ ∀ ys, SqK c K H d ys → ys[i]? = some y,
    fun i H => ∃ xs ys : List V, SqK b K H a xs ∧ SqK c K H d ys ∧ i = min xs.length ys.length⟩
theorem turn_zipA {P : Program} {w : World} {K : PySem.W.Frag} {elts : List Expr} {kk : Nat} {tpos : Pos} {b c : Bool} {a d z TI TO i1 i2 : Addr} (S : ZipSep2 z TI TO i1 i2 [i1, a] [i2, d]) (hai : a ≠ i1) (hdi : d ≠ i2) :
    Turn P w K (.Tuple elts kk tpos) (ItZ b c K a d) [z, TI, TO, i1, i2] z (fun i h => IsZip h z TI TO .none ∧ IsTupOf2 h TI (.ref i1) (.ref i2) ∧ (∃ x y, IsTupOf2 h TO x y) ∧ itA b h i1 a i ∧ itA c h i2 d i) where
  mem := by simp
  obj := fun i h st q hc => by
    obtain ⟨hz, hTI, ⟨x, y, hTO⟩, h1, h2⟩ := st
    have e' : q = z ∨ q = TI ∨ q = TO ∨ q = i1 ∨ q = i2 := by simpa using hc
    rcases e' with r | r | r | r | r
    · rw [r]; exact ⟨_, hz, fun v q => nomatch q⟩
    · rw [r]; exact ⟨_, hTI, fun v q => nomatch q⟩
    · rw [r]; exact ⟨_, hTO, fun v q => nomatch q⟩
    · rw [r]; exact itA_obj h1
    · rw [r]; exact itA_obj h2
  keep := fun i h h' st k => by
    obtain ⟨hz, hTI, ⟨x, y, hTO⟩, h1, h2⟩ := st
    exact ⟨k z (by simp) _ hz, k TI (by simp) _ hTI, ⟨x, y, k TO (by simp) _ hTO⟩, itA_at h1 fun o q => k i1 (by simp) o q, itA_at h2 fun o q => k i2 (by simp) o q⟩
  item := by
    intro X hP hw hK hcl i pins s σ H E I hf st hg
    subst hP hw hK
    obtain ⟨hz, hTI, ⟨x0, y0, hTO⟩, h1, h2⟩ := st
    obtain ⟨xs, ys, x, y, hqx, hqy, hx, hy⟩ := hg
    obtain ⟨its, rv, p, _⟩ := srcOf I hqx
    obtain ⟨its2, rv2, p2, _⟩ := srcOf I hqy
    obtain ⟨u, hu, ru⟩ := rv.get hx
    obtain ⟨u2, hu2, ru2⟩ := rv2.get hy
    have hzl : z < s.heap.objs.size := Heap.lt_size hz
    have l1 : i < its.toArray.size := by
      have := rv.length
      have := (List.getElem?_eq_some_iff.mp hx).1
      simp; omega
    have l2 : i < its2.toArray.size := by
      have := rv2.length
      have := (List.getElem?_eq_some_iff.mp hy).1
      simp; omega
    refine wpAny_pyNext_zipD2_item S (drawsA (prog := X.prog) (w := X.w) (A := X.A.in1) (I.ok.hd hcl) b i1 a hai its.toArray) (drawsA (prog := X.prog) (w := X.w) (A := X.A.in1) (I.ok.hd hcl) c i2 d hdi its2.toArray) hz hTI hTO ⟨h1, p⟩ ⟨h2, p2⟩ l1 l2
      fun x1 x2 h' tk y1 y2 z' TO' s1' s2' hT hsz hk => ?_
    have e1 : x1 = u := by
      have a1 : its.toArray[i]? = some x1 := y1
      have a2 : its.toArray[i]? = some u := by simpa using hu
      rw [a1] at a2; exact Option.some.inj a2
    have e2 : x2 = u2 := by
      have a1 : its2.toArray[i]? = some x2 := y2
      have a2 : its2.toArray[i]? = some u2 := by simpa using hu2
      rw [a1] at a2; exact Option.some.inj a2
    subst e1 e2
    refine ⟨_, rfl, wpAny_letOwnedTupleGo_zip (s := { s with heap := h', toks := tk }) z' fun h'' z'' sb => ?_⟩
    have hT2 : h''.get? s.heap.objs.size = some { cls := .type "tuple", data := .seq #[x1, x2] } := (sb.2 _ (Nat.ne_of_gt hzl)).trans hT
    have new : ObjOk X.prog X.w (upd H s.heap.objs.size (.tup [x, y])) h'' s.heap.objs.size (.tup [x, y]) :=
      ⟨by show 2 ≤ sizeLine; decide, [x1, x2], .cons ru (.cons ru2 .nil), ⟨_, hT2, rfl, _, rfl⟩⟩
    have I1 : Inv X pins σ (upd H s.heap.objs.size (.tup [x, y])) { s with heap := h'', toks := tk } :=
      I.turnedNew (t' := tk) (ch := [z, TI, TO, i1, i2]) (fun c o hb q => (sb.2 c (fun q' => hb (by simp [q']))).trans (hk c o (fun q' => hb (by simp [q'])) (fun q' => hb (by simp [q'])) (fun q' => hb (by simp [q'])) (fun q' => hb (by simp [q'])) q)) hf (Nat.le_refl _) new
    refine ⟨.ref s.heap.objs.size, _, I1, rfl, ⟨_, x, y, rfl, I.hok.fresh (Nat.le_refl _), rfl, fun l hl => by rw [sqk_inj I hl hqx]; exact hx, fun l hl => by rw [sqk_inj I hl hqy]; exact hy⟩, ⟨z'', ?_, ⟨x1, x2, ?_⟩, ?_, ?_⟩, fun c hcm => ?_⟩
    · exact (sb.2 _ S.TIz).trans (hk _ _ S.TIz S.TITO S.TIi1 S.TIi2 hTI)
    · exact (sb.2 _ S.TOz).trans TO'
    · exact itA_at s1'.1 fun o q => (sb.2 _ (Ne.symm S.zi1)).trans q
    · exact itA_at s2'.1 fun o q => (sb.2 _ (Ne.symm S.zi2)).trans q
    · have hlt : c < s.heap.objs.size := by
        have e' : c = z ∨ c = TI ∨ c = TO ∨ c = i1 ∨ c = i2 := by simpa using hcm
        rcases e' with q | q | q | q | q
        · rw [q]; exact hzl
        · rw [q]; exact Heap.lt_size hTI
        · rw [q]; exact Heap.lt_size hTO
        · rw [q]; obtain ⟨_, e1, _⟩ := itA_obj h1; exact Heap.lt_size e1
        · rw [q]; obtain ⟨_, e2, _⟩ := itA_obj h2; exact Heap.lt_size e2
      rw [upd_ne (Nat.ne_of_lt hlt)]
      exact (hf c hcm).1
  done := by
    intro X hP hw hK hcl i pins s σ H E I hf st hg
    subst hP hw hK
    obtain ⟨hz, hTI, ⟨x0, y0, hTO⟩, h1, h2⟩ := st
    obtain ⟨xs, ys, hqx, hqy, hend⟩ := hg
    obtain ⟨its, rv, p, _⟩ := srcOf I hqx
    obtain ⟨its2, rv2, p2, _⟩ := srcOf I hqy
    have l1 := rv.length
    have l2 := rv2.length
    refine wpAny_pyNext_zipD2_end S (drawsA (prog := X.prog) (w := X.w) (A := X.A.in1) (I.ok.hd hcl) b i1 a hai its.toArray) (drawsA (prog := X.prog) (w := X.w) (A := X.A.in1) (I.ok.hd hcl) c i2 d hdi its2.toArray) hz hTI hTO ⟨h1, p⟩ ⟨h2, p2⟩ (by simp; omega) (by simp; omega) (by simp; omega)
      fun h' tk hk => ⟨rfl, I.turnedL (t' := tk) (ch := [z, TI, TO, i1, i2]) (fun c o hb q => hk c o (fun q' => hb (by simp [q'])) (fun q' => hb (by simp [q'])) (fun q' => hb (by simp [q'])) (fun q' => hb (by simp [q'])) q) hf⟩
  self := fun A i s Q E st h => wpAny_pyIter_zip st.1 h

theorem heap_at (a : Addr) (o : Obj) (hf : o.isFreed = false) : ∃ h : Heap, h.get? a = some o := by
  have : ∀ n : Nat, ∃ h : Heap, h.objs.size = n := fun n => by
    induction n with
    | zero => exact ⟨{}, rfl⟩
    | succ n ih => obtain ⟨h, e⟩ := ih; exact ⟨h.push o, by rw [Heap.size_push, e]⟩
  obtain ⟨h, e⟩ := this a
  subst e
  exact ⟨h.push o, Heap.get?_push_size _ hf⟩
theorem raw_inj {h : Heap} {d : Addr} {es es' : Array DictEntry} {ep ep' : Nat} (x : h.DictRaw d es ep) (y : h.DictRaw d es' ep') : es = es' ∧ ep = ep' := by
  obtain ⟨o, e, _, q⟩ := x
  obtain ⟨o', e', _, q'⟩ := y
  rw [e] at e'; cases e'
  rw [q] at q'
  cases q'
  exact ⟨rfl, rfl⟩
theorem dphi_inj {d : Addr} {es es' : Array DictEntry} {ep ep' : Nat} (h : dphi d es ep = dphi d es' ep') : es = es' ∧ ep = ep' := by
  obtain ⟨hp, e⟩ := heap_at d { cls := .type "dict", data := .dict es ep } rfl
  have x : dphi d es ep hp := ⟨_, e, ⟨rfl, rfl, rfl⟩, rfl⟩
  have y := x
  rw [h] at y
  exact raw_inj x y
section
variable {X : Cx} {pins : List (Addr × Obj)} {σ : St} {H : Hp} {s : Shared}
theorem Inv.raw {d : Addr} {es : Array DictEntry} {ep : Nat} (I : Inv X pins σ H s) (h : H d = some (.ext (dphi d es ep))) : s.heap.DictRaw d es ep := (I.hok d _ h).1
end
/-- w: 0 keys, 1 values -/
def ItD (pick : DictEntry → Value) (d : Addr) (es : Array DictEntry) (ep : Nat) : It :=
  ⟨fun i H => H d = some (.ext (dphi d es ep)) ∧ i < es.size ∧ ∃ x, ∃ hi : i < es.size, RelV x (pick es[i]), fun i H v H' => H' = H ∧ ∃ hi : i < es.size, RelV v (pick es[i]), fun i H => H d = some (.ext (dphi d es ep)) ∧ i = es.size⟩
theorem turn_dkeys {P : Program} {w : World} {K : PySem.W.Frag} {tg : Expr} (d it : Addr) (hne : d ≠ it) (es : Array DictEntry) (ep : Nat) : Turn P w K tg (ItD (·.key) d es ep) [it] it (fun i h => h.IsKeyIter it d i es.size ep) where
  mem := by simp
  obj := fun i h st b hb => by
    have e : b = it := by simpa using hb
    subst e
    obtain ⟨o, e, c, q⟩ := st
    exact ⟨o, e, fun v z => by rw [q] at z; cases z⟩
  keep := fun i h h' st k => st.at fun o e => k it (by simp) o e
  item := by
    intro X hP hw hK hc i pins s σ H E I hf st hg
    subst hP hw hK
    obtain ⟨hd, hi, x, _, rx⟩ := hg
    obtain ⟨f0, f1, f2, f3, f4, f5⟩ := hf it (by simp)
    refine wpAny_pyNext_keys_item_raw st (Inv.raw I hd) hi fun h' st' sb => ?_
    have I1 : Inv X pins σ H { s with heap := h' } := I.turned (t' := s.toks) (fun b o hb e => (sb.2 b hb).trans e) f0 f1 f3 f4 f5
    obtain ⟨o, e, c, q⟩ := id st'
    exact ⟨_, rfl, go_of (s := { s with heap := h' }) e c q (by decide) ⟨x, H, I1, rx, ⟨rfl, hi, rx⟩, st', fun b hb => (hf b hb).1⟩⟩
  done := by
    intro X hP hw hK hc i pins s σ H E I hf st hg
    subst hP hw hK
    obtain ⟨hd, hi⟩ := hg
    obtain ⟨f0, f1, f2, f3, f4, f5⟩ := hf it (by simp)
    exact wpAny_pyNext_keys_end_raw (I.ok.hd hc) st (Inv.raw I hd) (by omega) fun h' eb => ⟨rfl, I.turned (t' := s.toks) (fun b o hb e => eb b o hb e) f0 f1 f3 f4 f5⟩
  self := fun A i s Q E st h => wpAny_pyIter_keyiter st h
theorem turn_dvals {P : Program} {w : World} {K : PySem.W.Frag} {tg : Expr} (d it : Addr) (hne : d ≠ it) (es : Array DictEntry) (ep : Nat) : Turn P w K tg (ItD (·.val) d es ep) [it] it (fun i h => h.IsValIter it d i es.size ep) where
  mem := by simp
  obj := fun i h st b hb => by
    have e : b = it := by simpa using hb
    subst e
    obtain ⟨o, e, c, q⟩ := st
    exact ⟨o, e, fun v z => by rw [q] at z; cases z⟩
  keep := fun i h h' st k => st.at fun o e => k it (by simp) o e
  item := by
    intro X hP hw hK hc i pins s σ H E I hf st hg
    subst hP hw hK
    obtain ⟨hd, hi, x, _, rx⟩ := hg
    obtain ⟨f0, f1, f2, f3, f4, f5⟩ := hf it (by simp)
    refine wpAny_pyNext_values_item_raw st (Inv.raw I hd) hi fun h' st' sb => ?_
    have I1 : Inv X pins σ H { s with heap := h' } := I.turned (t' := s.toks) (fun b o hb e => (sb.2 b hb).trans e) f0 f1 f3 f4 f5
    obtain ⟨o, e, c, q⟩ := id st'
    exact ⟨_, rfl, go_of (s := { s with heap := h' }) e c q (by decide) ⟨x, H, I1, rx, ⟨rfl, hi, rx⟩, st', fun b hb => (hf b hb).1⟩⟩
  done := by
    intro X hP hw hK hc i pins s σ H E I hf st hg
    subst hP hw hK
    obtain ⟨hd, hi⟩ := hg
    obtain ⟨f0, f1, f2, f3, f4, f5⟩ := hf it (by simp)
    exact wpAny_pyNext_values_end_raw (I.ok.hd hc) st (Inv.raw I hd) (by omega) fun h' eb => ⟨rfl, I.turned (t' := s.toks) (fun b o hb e => eb b o hb e) f0 f1 f3 f4 f5⟩
  self := fun A i s Q E st h => wpAny_pyIter_valiter st h
def ItDI (d : Addr) (es : Array DictEntry) (ep : Nat) : It :=
  ⟨fun i H => H d = some (.ext (dphi d es ep)) ∧ ∃ k x, ∃ hi : i < es.size, RelV k es[i].key ∧ RelV x es[i].val, fun i H v H' => ∃ T k x, v = .ref T ∧ H T = none ∧ H' = upd H T (.tup [k, x]) ∧ ∃ hi : i < es.size, RelV k es[i].key ∧ RelV x es[i].val,
    fun i H => H d = some (.ext (dphi d es ep)) ∧ i = es.size⟩
theorem turn_ditems {P : Program} {w : World} {K : PySem.W.Frag} {elts : List Expr} {kk : Nat} {tpos : Pos} (d it : Addr) (hne : d ≠ it) (es : Array DictEntry) (ep : Nat) :
    Turn P w K (.Tuple elts kk tpos) (ItDI d es ep) [it] it (fun i h => ∃ ok ov, IsItemIter h it d i es.size ep ok ov) where
  mem := by simp
  obj := fun i h st b hb => by
    have e : b = it := by simpa using hb
    subst e
    obtain ⟨ok, ov, q⟩ := st
    exact ⟨_, q, fun v z => nomatch z⟩
  keep := fun i h h' st k => let ⟨ok, ov, q⟩ := st; ⟨ok, ov, k it (by simp) _ q⟩
  item := by
    intro X hP hw hK hc i pins s σ H E I hf st hg
    subst hP hw hK
    obtain ⟨hd, k, x, hi, rk, rx⟩ := hg
    obtain ⟨ok, ov, he⟩ := st
    have hlt : it < s.heap.objs.size := Heap.lt_size he
    refine wpAny_pyNext_items_item_raw he (Inv.raw I hd) hi fun h' ho hT hz hk => ?_
    refine ⟨_, rfl, wpAny_letOwnedTupleGo_items (s := { s with heap := h' }) ho fun h'' he' sb => ?_⟩
    have hT2 : h''.get? s.heap.objs.size = some { cls := .type "tuple", data := .seq #[es[i].key, es[i].val] } := (sb.2 _ (Nat.ne_of_gt hlt)).trans hT
    have new : ObjOk X.prog X.w (upd H s.heap.objs.size (.tup [k, x])) h'' s.heap.objs.size (.tup [k, x]) :=
      ⟨by show 2 ≤ sizeLine; decide, [es[i].key, es[i].val], .cons rk (.cons rx .nil), ⟨_, hT2, rfl, _, rfl⟩⟩
    have I1 : Inv X pins σ (upd H s.heap.objs.size (.tup [k, x])) { s with heap := h'' } :=
      I.turnedNew (t' := s.toks) (ch := [it]) (fun b ob hb e => (sb.2 b (by simpa using hb)).trans (hk b ob (by simpa using hb) e)) hf (Nat.le_refl _) new
    refine ⟨.ref s.heap.objs.size, _, I1, rfl, ⟨_, k, x, rfl, I.hok.fresh (Nat.le_refl _), rfl, hi, rk, rx⟩, ⟨_, _, he'⟩, fun b hb => ?_⟩
    have e : b = it := by simpa using hb
    rw [e, upd_ne (Nat.ne_of_lt hlt)]
    exact (hf it (by simp)).1
  done := by
    intro X hP hw hK hc i pins s σ H E I hf st hg
    subst hP hw hK
    obtain ⟨hd, hi⟩ := hg
    obtain ⟨f0, f1, f2, f3, f4, f5⟩ := hf it (by simp)
    obtain ⟨ok, ov, he⟩ := st
    exact wpAny_pyNext_items_end_raw (I.ok.hd hc) he (Inv.raw I hd) (by omega) fun h' eb => ⟨rfl, I.turned (t' := s.toks) (fun b ob hb e => eb b ob hb e) f0 f1 f3 f4 f5⟩
  self := fun A i s Q E st h => let ⟨_, _, e⟩ := st; wpAny_pyIter_itemiter e h
end DL

set_option Elab.async false
set_option linter.all false
set_option maxRecDepth 100000
namespace DL
open PySem PySem.Spec L2
open PyProof.Rows hiding St

section
variable {L : Lt} {rd : List Nat} {l : Lv} {f : Ev} {gi : List D → Option (List D)} {σ : St} {H : Hp} {R : It → Hp → Prop} {C : List V → Hp → It → Prop}
theorem tI_args (hC : ∀ P as ds vs H1 xs, Reps L.K L.w P H1 ds vs as → gi ds = some xs → ∃ J gd gv, C vs H1 J ∧ (∀ P', Reps L.K L.w P' H1 (fzs ds) vs [] → Reps L.K L.w P' H1 (fzs gd) gv []) ∧ ItOk L.K L.w J (fzs gd) gv xs) (h : tI L rd l gi σ H R) : tAr L rd l σ H fun vs H1 => ∃ J, C vs H1 J ∧ R J H1 := by
  obtain ⟨ρ, P, vw, q⟩ := h
  refine ⟨ρ, P, vw, ?_⟩
  cases hl : l ρ with
  | vals ds =>
    rw [hl] at q
    intro vs H1 o
    cases hx : gi ds with
    | none => simp only [hx] at q
    | some xs =>
      simp only [hx] at q
      obtain ⟨P1, a1, g1, rr, _⟩ := id o
      obtain ⟨J, gd, gv, c, gh, ok⟩ := hC P1 a1 ds vs H1 xs rr hx
      exact ⟨J, c, q J vs gd gv H1 o gh ok⟩
  | exc c n => rw [hl] at q; exact q
  | stuck => rw [hl] at q; exact q
theorem tI_expr (hC : ∀ P as ds vs H1 xs, Reps L.K L.w P H1 ds vs as → gi ds = some xs → ∃ J gd gv, C vs H1 J ∧ (∀ P', Reps L.K L.w P' H1 (fzs ds) vs [] → Reps L.K L.w P' H1 (fzs gd) gv []) ∧ ItOk L.K L.w J (fzs gd) gv xs) (h : tI L rd (lC f lN) gi σ H R) : tE L rd f σ H fun x H1 => ∃ J, C [x] H1 J ∧ R J H1 := by
  obtain ⟨ρ, P, vw, q⟩ := h
  refine ⟨ρ, P, vw, ?_⟩
  unfold lC lN at q
  cases hf : f ρ with
  | val d =>
    simp only [hf] at q
    intro v H1 o
    cases hx : gi [d] with
    | none => simp only [hx] at q
    | some xs =>
      simp only [hx] at q
      obtain ⟨P1, a1, g1, rr, _⟩ := id o.list
      obtain ⟨J, gd, gv, c, gh, ok⟩ := hC P1 a1 [d] [v] H1 xs rr hx
      exact ⟨J, c, q J [v] gd gv H1 o.list gh ok⟩
  | exc c n => simp only [hf] at q; exact q
  | stuck => simp only [hf] at q
end

section
variable {K : PySem.W.Frag} {w : World}
theorem reps_sing {P : Addr → Prop} {H : Hp} {d : D} {v : V} (h : Reps K w P H (fzs [d]) [v] []) : Rep K w P H d.fz v [] := by
  simp only [fzs] at h
  exact h.one
theorem seq_get {P : Addr → Prop} {H : Hp} {xs : List D} {vs : List V} (h : Reps K w P H (fzs xs) vs []) {i : Nat} {x : D} (hx : xs[i]? = some x) : ∃ v, vs[i]? = some v ∧ Rep K w P H x.fz v [] := by
  obtain ⟨v, bs, a, b, s⟩ := h.get (fzs_get hx)
  have : bs = [] := by cases bs with
    | nil => rfl
    | cons y ys => have := s.subset List.mem_cons_self; cases this
  subst this
  exact ⟨v, a, b⟩
/-- what stands at a frozen list or tuple -/
theorem seqK {P : Addr → Prop} {H : Hp} {d : D} {v : V} (h : Rep K w P H d.fz v []) {xs : List D} (hd : (∃ o, d = .lst o xs) ∨ d = .tup xs) : ∃ a vs, v = .ref a ∧ SqK (match d with | .lst _ _ => true | _ => false) K H a vs ∧ Reps K w P H (fzs xs) vs [] := by
  rcases hd with ⟨o, rfl⟩ | rfl
  · simp only [D.fz] at h
    obtain ⟨a, vs, bs, e, q, rr, s⟩ := h.lst_inv
    have : bs = [] := by cases bs with
      | nil => rfl
      | cons y ys => have := s.subset List.mem_cons_self; cases this
    subst this
    exact ⟨a, vs, e, q, rr⟩
  · simp only [D.fz] at h
    obtain ⟨a, vs, e, q, rr⟩ := h.tup_inv
    exact ⟨a, vs, e, .of q, rr⟩
def seqOf : D → Option (List D)
  | .lst _ xs => some xs
  | .tup xs => some xs
  | _ => none
def isL : D → Bool
  | .lst _ _ => true
  | _ => false
theorem seqK' {P : Addr → Prop} {H : Hp} {d : D} {v : V} (h : Rep K w P H d.fz v []) {xs : List D} (hd : seqOf d = some xs) : ∃ a vs, v = .ref a ∧ SqK (isL d) K H a vs ∧ Reps K w P H (fzs xs) vs [] := by
  cases d with
  | lst o ys => simp only [seqOf, Option.some.injEq] at hd; subst hd; exact seqK h (.inl ⟨o, rfl⟩)
  | tup ys => simp only [seqOf, Option.some.injEq] at hd; subst hd; exact seqK h (.inr rfl)
  | _ => cases hd
/-- .. at one that may be owned -/
theorem seqK0 {P : Addr → Prop} {H : Hp} {d : D} {v : V} {as : List Addr} (h : Rep K w P H d v as) {xs : List D} (hd : seqOf d = some xs) : ∃ a vs, v = .ref a ∧ SqK (isL d) K H a vs := by
  cases d with
  | lst o ys => obtain ⟨a, vs, bs, e, q, _⟩ := h.lst_inv; exact ⟨a, vs, e, q⟩
  | tup ys => obtain ⟨a, vs, e, q, _⟩ := h.tup_inv; exact ⟨a, vs, e, .of q⟩
  | _ => cases hd
abbrev ItS (b : Bool) (K : PySem.W.Frag) (a : Addr) : It := match b with
  | true => Itl K a
  | false => Itt K a
theorem itok_seq {d : D} {xs : List D} {a : Addr} (hd : seqOf d = some xs) : ItOk K w (ItS (isL d) K a) (fzs [d]) [.ref a] xs := by
  intro P H fz rr i
  obtain ⟨a', vs, e, q, rs⟩ := seqK' (reps_sing rr) hd
  cases e
  have ln := rs.length
  rw [fzs_eq, List.length_map] at ln
  revert q
  cases isL d with
  | true =>
    intro q
    refine ⟨fun x hx => ?_, fun hi => ⟨vs, q, by omega⟩⟩
    obtain ⟨v, hv, rv⟩ := seq_get rs hx
    exact ⟨⟨vs, v, q, hv⟩, fun v' H' ⟨e, y⟩ => by subst e; have := y vs q; rw [hv] at this; cases this; exact .plain (.refl _) rv⟩
  | false =>
    intro q
    refine ⟨fun x hx => ?_, fun hi => ⟨vs, q, by omega⟩⟩
    obtain ⟨v, hv, rv⟩ := seq_get rs hx
    exact ⟨⟨vs, v, q, hv⟩, fun v' H' ⟨e, y⟩ => by subst e; have := y vs q; rw [hv] at this; cases this; exact .plain (.refl _) rv⟩
theorem EReps.get {P : Addr → Prop} {H : Hp} : ∀ {es : List DictEntry} {kvs : List (D × D)} {as : List Addr}, EReps K w P H es kvs as → ∀ {i : Nat} {p : D × D}, kvs[i]? = some p → ∃ e kv v bs, es[i]? = some e ∧ RelV kv e.key ∧ Rep K w P H p.1 kv [] ∧ RelV v e.val ∧ Rep K w P H p.2 v bs ∧ bs.Sublist as
  | _, _, _, .enil, i, p, h => by simp at h
  | _, _, _, .econs ik rk rkk hh rv a b, 0, p, h => by
    simp at h
    subst h
    exact ⟨_, _, _, _, rfl, rk, rkk, rv, a, List.sublist_append_left _ _⟩
  | _, _, _, .econs ik rk rkk hh rv a b, i + 1, p, h => by
    obtain ⟨e, kv, v, bs, x, y, z, u, t, s⟩ := b.get (i := i) (by simpa using h)
    exact ⟨e, kv, v, bs, by simpa using x, y, z, u, t, s.trans (List.sublist_append_right _ _)⟩
theorem EReps.length {P : Addr → Prop} {H : Hp} : ∀ {es : List DictEntry} {kvs : List (D × D)} {as : List Addr}, EReps K w P H es kvs as → es.length = kvs.length
  | _, _, _, .enil => rfl
  | _, _, _, .econs ik rk rkk hh rv a b => by simp [b.length]
def dicOf : D → Option (List (D × D))
  | .dic _ kvs => some kvs
  | _ => none
theorem dic0 {P : Addr → Prop} {H : Hp} {d : D} {v : V} {as : List Addr} (h : Rep K w P H d v as) {kvs : List (D × D)} (hd : dicOf d = some kvs) : ∃ a es ep, v = .ref a ∧ H a = some (.ext (dphi a es ep)) ∧ (a == sysModules) = false ∧ es.size = kvs.length := by
  cases d with
  | dic o ys =>
    simp only [dicOf, Option.some.injEq] at hd; subst hd
    cases h with
    | dicF a b c s e n => exact ⟨_, _, _, rfl, a, c, by have := e.length; simpa using this⟩
    | dicO a c s e n => exact ⟨_, _, _, rfl, a, c, by have := e.length; simpa using this⟩
  | _ => cases hd
theorem dicF' {P : Addr → Prop} {H : Hp} {d : D} {v : V} (h : Rep K w P H d.fz v []) {kvs : List (D × D)} (hd : dicOf d = some kvs) : ∃ a es ep, v = .ref a ∧ H a = some (.ext (dphi a es ep)) ∧ EReps K w P H es.toList (fzp kvs) [] := by
  cases d with
  | dic o ys =>
    simp only [dicOf, Option.some.injEq] at hd; subst hd
    simp only [D.fz] at h
    cases h with
    | dicF a b c s e n => exact ⟨_, _, _, rfl, a, e⟩
  | _ => cases hd
theorem sub_nil {bs : List Addr} (s : bs.Sublist []) : bs = [] := by cases bs with
  | nil => rfl
  | cons y ys => have := s.subset List.mem_cons_self; cases this
theorem fzp_get {kvs : List (D × D)} {i : Nat} {p : D × D} (h : kvs[i]? = some p) : (fzp kvs)[i]? = some (p.1, p.2.fz) := by rw [fzp_eq, List.getElem?_map, h]; rfl
/-- one entry of a frozen dict -/
theorem dic_get {P : Addr → Prop} {H : Hp} {d : D} {a : Addr} {es : Array DictEntry} {ep : Nat} (h : Rep K w P H d.fz (.ref a) []) {kvs : List (D × D)} (hd : dicOf d = some kvs) (ha : H a = some (.ext (dphi a es ep))) {i : Nat} {p : D × D} (hp : kvs[i]? = some p) :
    ∃ (hi : i < es.size) (kv v : V), RelV kv es[i].key ∧ Rep K w P H p.1 kv [] ∧ RelV v es[i].val ∧ Rep K w P H p.2.fz v [] := by
  obtain ⟨a', es', ep', e, q, er⟩ := dicF' h hd
  cases e
  rw [ha] at q
  have := dphi_inj (HO.ext.inj (Option.some.inj q))
  obtain ⟨rfl, rfl⟩ := this
  obtain ⟨e, kv, v, bs, h1, h2, h3, h4, h5, h6⟩ := er.get (fzp_get hp)
  have := sub_nil h6
  subst this
  have hi : i < es.size := by have := (List.getElem?_eq_some_iff.mp h1).1; simpa using this
  have : es[i] = e := by rw [Array.getElem?_toList, Array.getElem?_eq_getElem hi] at h1; exact Option.some.inj h1
  rw [← this] at h2 h4
  exact ⟨hi, kv, v, h2, h3, h4, h5⟩
theorem dic_at {P : Addr → Prop} {H : Hp} {d : D} {a : Addr} {es es' : Array DictEntry} {ep ep' : Nat} (h : Rep K w P H d.fz (.ref a) []) {kvs : List (D × D)} (hd : dicOf d = some kvs) : ∃ es ep, H a = some (.ext (dphi a es ep)) ∧ es.size = kvs.length := by
  obtain ⟨a', es', ep', e, q, er⟩ := dicF' h hd
  cases e
  exact ⟨_, _, q, by have := er.length; rw [fzp_eq, List.length_map] at this; simpa using this⟩
end
section
variable {K : PySem.W.Frag} {w : World}
theorem Rep.fz' {P : Addr → Prop} {H : Hp} {d : D} {v : V} (h : Rep K w P H d v []) : Rep K w P H d.fz v [] := h.fz (fun _ z => z) (fun _ z => nomatch z)
end
section
variable {K : PySem.W.Frag} {w : World}
theorem itok_dic {d : D} {kvs : List (D × D)} {a : Addr} {es : Array DictEntry} {ep : Nat} (hd : dicOf d = some kvs) (hz : es.size = kvs.length) {pick : DictEntry → Value} {pk : D × D → D} (hp : (pick = (·.key) ∧ pk = (·.1)) ∨ (pick = (·.val) ∧ pk = (·.2))) :
    ItOk K w (ItD pick a es ep) (fzs [.pin a es ep, d]) [.bl true, .ref a] (kvs.map pk) := by
  intro P H fz rr i
  simp only [fzs, D.fz] at rr
  obtain ⟨r1, r2⟩ := rr.nil_split
  have r2 := r2.one
  cases r1 with
  | pin ha hP =>
    refine ⟨fun x hx => ?_, fun hi => ⟨ha, by rw [hz, hi, List.length_map]⟩⟩
    rw [List.getElem?_map] at hx
    cases hk : kvs[i]? with
    | none => rw [hk] at hx; cases hx
    | some p =>
      rw [hk] at hx
      cases hx
      obtain ⟨hi, kv, v, r3, r4, r5, r6⟩ := dic_get r2 hd ha hk
      rcases hp with ⟨rfl, rfl⟩ | ⟨rfl, rfl⟩
      · refine ⟨⟨ha, hi, kv, hi, r3⟩, fun v' H' ⟨e, hi', y⟩ => ?_⟩
        subst e
        rw [y.inj r3]
        exact .plain (.refl _) r4.fz'
      · refine ⟨⟨ha, hi, v, hi, r5⟩, fun v' H' ⟨e, hi', y⟩ => ?_⟩
        subst e
        rw [y.inj r5]
        exact .plain (.refl _) r6
theorem itok_items {d : D} {kvs : List (D × D)} {a : Addr} {es : Array DictEntry} {ep : Nat} (hd : dicOf d = some kvs) (hz : es.size = kvs.length) :
    ItOk K w (ItDI a es ep) (fzs [.pin a es ep, d]) [.bl true, .ref a] (kvs.map fun p => .tup [p.1, p.2]) := by
  intro P H fz rr i
  simp only [fzs, D.fz] at rr
  obtain ⟨r1, r2⟩ := rr.nil_split
  have r2 := r2.one
  cases r1 with
  | pin ha hP =>
    refine ⟨fun x hx => ?_, fun hi => ⟨ha, by rw [hz, hi, List.length_map]⟩⟩
    rw [List.getElem?_map] at hx
    cases hk : kvs[i]? with
    | none => rw [hk] at hx; cases hx
    | some p =>
      rw [hk] at hx
      cases hx
      obtain ⟨hi, kv, v, r3, r4, r5, r6⟩ := dic_get r2 hd ha hk
      refine ⟨⟨ha, kv, v, hi, r3, r5⟩, fun v' H' ⟨T, k, x, e, hT, e2, hi', y1, y2⟩ => ?_⟩
      subst e e2
      rw [y1.inj r3, y2.inj r5]
      refine .plain (same_new hT) ?_
      simp only [D.fz, fzs]
      exact .tup (as := []) upd_same (.cons (as := []) (bs := []) (r4.fz'.mono (same_new hT) fun _ z => z) (.cons (as := []) (bs := []) (r6.mono (same_new hT) fun _ z => z) .nil))
theorem pin_ok {P : Addr → Prop} {H : Hp} {d : D} {a : Addr} {es : Array DictEntry} {ep : Nat} {kvs : List (D × D)} (hd : dicOf d = some kvs) (ha : H a = some (.ext (dphi a es ep))) (h : Reps K w P H (fzs [d]) [.ref a] []) : Reps K w P H (fzs [.pin a es ep, d]) [.bl true, .ref a] [] := by
  simp only [fzs] at h ⊢
  have h1 := h.one
  refine .cons (as := []) (bs := []) ?_ h
  simp only [D.fz]
  cases d with
  | dic o ys =>
    simp only [D.fz] at h1
    cases h1 with
    | dicF x q s z e n => exact .pin ha q
  | _ => cases hd
end

def giSeq : List D → Option (List D)
  | [d] => match seqOf d with
    | some xs => some xs
    | none => (dicOf d).map fun kvs => kvs.map (·.1)
  | _ => none
section
variable {X : Cx} {W : WX} {tg e : Expr} {rd : List Nat} {f : Ev} {l : Lv}
theorem pi_fresh {pins : List (Addr × Obj)} {σ : St} {H : Hp} {s : Shared} {b : Addr} (I : Inv X pins σ H s) (hle : s.heap.objs.size ≤ b) : FpOk X pins H b := I.fpOk hle (I.hok.fresh hle)
theorem di_seq (he : DE X W e rd f) : DI X W tg e rd (lC f lN) giSeq := by
  refine ⟨fun pins s σ H R I h => ?_⟩
  have h' := tI_expr (C := fun vs H1 J => (∃ b a xs, vs = [.ref a] ∧ SqK b X.K H1 a xs ∧ J = ItS b X.K a) ∨ ∃ a es ep, vs = [.ref a] ∧ (a == sysModules) = false ∧ H1 a = some (.ext (dphi a es ep)) ∧ J = ItD (·.key) a es ep) (fun P as ds vs H1 xs rr hg => by
    unfold giSeq at hg
    split at hg
    · rename_i d
      obtain ⟨v, rfl, r1⟩ := rr.sing
      split at hg
      · rename_i ys hs
        cases hg
        obtain ⟨a, us, rfl, q⟩ := seqK0 r1 hs
        exact ⟨_, [d], [.ref a], .inl ⟨_, a, us, rfl, q, rfl⟩, fun _ h => h, itok_seq hs⟩
      · cases hd : dicOf d with
        | none => rw [hd] at hg; cases hg
        | some kvs =>
          rw [hd] at hg
          cases hg
          obtain ⟨a, es, ep, rfl, q, ns, hz⟩ := dic0 r1 hd
          exact ⟨_, [.pin a es ep, d], [.bl true, .ref a], .inr ⟨a, es, ep, rfl, ns, q, rfl⟩, fun P' h => pin_ok hd q h, itok_dic hd hz (.inl ⟨rfl, rfl⟩)⟩
    · cases hg) h
  refine thn (he.run pins s σ H _ I h') fun v s1 ⟨x, H1, I1, r1, J, c, q⟩ => ?_
  rcases c with ⟨b, a, xs, e, hq, rfl⟩ | ⟨a, es, ep, e, ns, hd, rfl⟩
  · obtain rfl : x = .ref a := by simpa using e
    obtain rfl : v = Value.ref a := r1
    cases b
    · obtain ⟨its, rv, p, hz⟩ := I1.tuple hq
      refine wpAny_pyIter_tuple (show s1.heap.IsTuple a its.toArray from p) ?_
      exact pi_one (tk := s1.toks) I1 _ (turn_tuple a _) ⟨_, Heap.get?_push_size _ rfl, rfl, rfl⟩ q
    · obtain ⟨its, rv, p, hz⟩ := I1.list hq
      refine wpAny_pyIter_list p.isList ?_
      exact pi_one (tk := s1.toks) I1 _ (turn_list a _) ⟨_, Heap.get?_push_size _ rfl, rfl, rfl⟩ q
  · obtain rfl : x = .ref a := by simpa using e
    obtain rfl : v = Value.ref a := r1
    have hm := Inv.raw I1 hd
    refine wpAny_pyIter_dict_raw ns hm ?_
    exact pi_one (tk := s1.toks) I1 _ (turn_dkeys a _ (Nat.ne_of_lt hm.lt_size) es ep) ⟨_, Heap.get?_push_size _ rfl, rfl, rfl⟩ q
/-- range(n), range(m, n) -/
def giRng1 : List D → Option (List D)
  | [.int j] => if -(2 ^ 62) ≤ j ∧ j < 2 ^ 62 then some ((List.range j.toNat).map fun i => .int (i : Nat)) else none
  | _ => none
def giRng2 : List D → Option (List D)
  | [.int i, .int j] => if -(2 ^ 62) ≤ i ∧ i < 2 ^ 62 ∧ -(2 ^ 62) ≤ j ∧ j < 2 ^ 62 then some ((List.range (j - i).toNat).map fun k => .int (i + (k : Nat))) else none
  | _ => none
theorem itok_rng {K : PySem.W.Frag} {w : World} (lo : Int) (n : Nat) (gd : List D) (gv : List V) : ItOk K w (Itr lo n) gd gv ((List.range n).map fun k => .int (lo + (k : Nat))) := by
  intro P H fz rr i
  refine ⟨fun x hx => ?_, fun hi => ?_⟩
  · rw [List.getElem?_map] at hx
    by_cases hi : i < n
    · rw [List.getElem?_range hi] at hx
      cases hx
      exact ⟨hi, fun v H' ⟨e, y⟩ => by subst e y; simp only [D.fz]; exact .plain (.refl _) (.int _)⟩
    · rw [List.getElem?_eq_none (by simp; omega)] at hx; cases hx
  · simp at hi
    show n ≤ i
    omega
theorem di_rng1 {a : Expr} {p pos : Pos} (hg : Gl X "range") (hm : X.mg "range" = none) (ha : DA X W [a] rd l) (hs : starEach [a] X.env = [(false, eval a X.env)] := by rfl) : DI X W tg (.Call (.Name "range" p) [a] [] pos) rd l giRng1 :=
  PIi (pi_range1 hg hm ha hs) fun σ H R h => by
    have := tI_args (C := fun vs H1 J => ∃ j : Int, vs = [.int j] ∧ -(2 ^ 62) ≤ j ∧ j < 2 ^ 62 ∧ J = Itr 0 j.toNat) (fun P as ds vs H1 xs rr hg => by
      unfold giRng1 at hg
      split at hg
      · rename_i j
        obtain ⟨v, rfl, r1⟩ := rr.sing
        obtain ⟨rfl, _⟩ := r1.int_eq
        split at hg
        · rename_i hc
          cases hg
          have := itok_rng (K := X.K) (w := X.w) 0 j.toNat (fzs [.int j]) [.int j]
          simp only [Int.zero_add] at this
          exact ⟨_, _, _, ⟨j, rfl, hc.1, hc.2, rfl⟩, fun _ h => h, this⟩
        · cases hg
      · cases hg) h
    obtain ⟨ρ, P, vw, q⟩ := this
    refine ⟨ρ, P, vw, ?_⟩
    cases hl : l ρ with
    | vals ds => rw [hl] at q; exact fun vs H' o => by obtain ⟨J, ⟨j, e, a, b, rfl⟩, r⟩ := q vs H' o; exact ⟨j, e, a, b, r⟩
    | exc c n => rw [hl] at q; exact q
    | stuck => rw [hl] at q; exact q
theorem di_rng2 {a b : Expr} {p pos : Pos} (hg : Gl X "range") (hm : X.mg "range" = none) (ha : DA X W [a, b] rd l) (hs : starEach [a, b] X.env = [(false, eval a X.env), (false, eval b X.env)] := by rfl) (hs2 : starEach [b] X.env = [(false, eval b X.env)] := by rfl) :
    DI X W tg (.Call (.Name "range" p) [a, b] [] pos) rd l giRng2 :=
  PIi (pi_range2 hg hm ha hs hs2) fun σ H R h => by
    have := tI_args (C := fun vs H1 J => ∃ i j : Int, vs = [.int i, .int j] ∧ (-(2 ^ 62) ≤ i ∧ i < 2 ^ 62 ∧ -(2 ^ 62) ≤ j ∧ j < 2 ^ 62) ∧ J = Itr i (j - i).toNat) (fun P as ds vs H1 xs rr hg => by
      unfold giRng2 at hg
      split at hg
      · rename_i i j
        obtain ⟨v, u, a1, a2, rfl, rfl, r1, r2⟩ := rr.pair
        obtain ⟨rfl, _⟩ := r1.int_eq
        obtain ⟨rfl, _⟩ := r2.int_eq
        split at hg
        · rename_i hc
          cases hg
          exact ⟨_, _, _, ⟨i, j, rfl, hc, rfl⟩, fun _ h => h, itok_rng i (j - i).toNat (fzs [.int i, .int j]) [.int i, .int j]⟩
        · cases hg
      · cases hg) h
    obtain ⟨ρ, P, vw, q⟩ := this
    refine ⟨ρ, P, vw, ?_⟩
    cases hl : l ρ with
    | vals ds => rw [hl] at q; exact fun vs H' o => by obtain ⟨J, ⟨i, j, e, a, rfl⟩, r⟩ := q vs H' o; exact ⟨i, j, e, a, r⟩
    | exc c n => rw [hl] at q; exact q
    | stuck => rw [hl] at q; exact q
/-- enumerate(x) -/
def giEnum : List D → Option (List D)
  | [d] => (seqOf d).map fun xs => xs.zipIdx.map fun p => .tup [.int (p.2 : Nat), p.1]
  | _ => none
theorem itok_enum {K : PySem.W.Frag} {w : World} {d : D} {xs : List D} {a : Addr} (hd : seqOf d = some xs) : ItOk K w (ItE (isL d) K a) (fzs [d]) [.ref a] (xs.zipIdx.map fun p => .tup [.int (p.2 : Nat), p.1]) := by
  intro P H fz rr i
  obtain ⟨a', vs, e, q, rs⟩ := seqK' (reps_sing rr) hd
  cases e
  have ln := rs.length
  rw [fzs_eq, List.length_map] at ln
  refine ⟨fun x hx => ?_, fun hi => ⟨vs, q, by simp at hi; omega⟩⟩
  rw [List.getElem?_map, List.getElem?_zipIdx] at hx
  cases hk : xs[i]? with
  | none => rw [hk] at hx; cases hx
  | some y =>
    rw [hk] at hx
    cases hx
    obtain ⟨v, hv, rv⟩ := seq_get rs hk
    refine ⟨⟨vs, v, q, hv⟩, fun v' H' ⟨T, x, e, hT, e2, hx⟩ => ?_⟩
    subst e e2
    have := hx vs q
    rw [hv] at this
    cases this
    refine .plain (same_new hT) ?_
    simp only [D.fz, fzs, Nat.zero_add]
    exact .tup (as := []) upd_same (.cons (as := []) (bs := []) (.int _) (.cons (as := []) (bs := []) (rv.mono (same_new hT) fun _ z => z) .nil))
theorem di_enum {p pos tpos : Pos} {elts : List Expr} {kk : Nat} (hg : Gl X "enumerate") (hm : X.mg "enumerate" = none) (ha : DA X W [e] rd l) (hs : starEach [e] X.env = [(false, eval e X.env)] := by rfl) :
    DI X W (.Tuple elts kk tpos) (.Call (.Name "enumerate" p) [e] [] pos) rd l giEnum := by
  refine ⟨fun pins s σ H R I h => ?_⟩
  have h' := tI_args (C := fun vs H1 J => ∃ b a xs, vs = [.ref a] ∧ SqK b X.K H1 a xs ∧ J = ItE b X.K a) (fun P as ds vs H1 xs rr hg => by
    unfold giEnum at hg
    split at hg
    · rename_i d
      obtain ⟨v, rfl, r1⟩ := rr.sing
      cases hs : seqOf d with
      | none => rw [hs] at hg; cases hg
      | some ys =>
        rw [hs] at hg
        cases hg
        obtain ⟨a, us, rfl, q⟩ := seqK0 r1 hs
        exact ⟨_, [d], [.ref a], ⟨_, a, us, rfl, q, rfl⟩, fun _ h => h, itok_enum hs⟩
    · cases hg) h
  refine Call_ (ld_blt I hg hm boot_enumerate (PyProof.Rows.callWith_type1 (thn (ha.run pos pins s σ H _ I h') fun us s1 ⟨vs, H1, I1, r1, J, ⟨b, a, xs, ex, hq, eJ⟩, q⟩ => ?_) hs rfl))
  subst ex eJ
  cases r1 with
  | cons r rr =>
    cases rr
    cases r
    obtain ⟨its, rv, p', hz⟩ := srcOf I1 hq
    refine enum1_begins (beginsA b a its.toArray) p' fun h' he hit hsz hk => wpAny_pyIter_enum he ?_
    have I2 : Inv X pins σ H1 { s1 with heap := h' } := I1.kept (t' := s1.toks) hk
    refine ⟨s1.heap.objs.size + 1, [s1.heap.objs.size + 1, s1.heap.objs.size], _, _, H1, rfl, I2, turn_enumA b a (s1.heap.objs.size + 1) s1.heap.objs.size (fun z => absurd (show (s1.heap.objs.size + 1 : Nat) < s1.heap.objs.size from z.symm ▸ hz) (by omega)) (Nat.ne_of_lt hz), ⟨⟨.none, he⟩, itA_new b h' _ a hit, Nat.succ_ne_self _⟩, fun b hb => ?_, q⟩
    have e' : b = s1.heap.objs.size + 1 ∨ b = s1.heap.objs.size := by simpa using hb
    have hle : s1.heap.objs.size ≤ b := by
      rcases e' with z | z
      · rw [z]; exact Nat.le_add_right _ _
      · rw [z]; exact Nat.le_refl _
    exact pi_fresh I1 hle
/-- zip(x, y) -/
def giZip : List D → Option (List D)
  | [d, e] => match seqOf d, seqOf e with
    | some xs, some ys => some (List.zipWith (fun x y => .tup [x, y]) xs ys)
    | _, _ => none
  | _ => none
theorem itok_zip {K : PySem.W.Frag} {w : World} {d d2 : D} {xs ys : List D} {a a2 : Addr} (hd : seqOf d = some xs) (hd2 : seqOf d2 = some ys) : ItOk K w (ItZ (isL d) (isL d2) K a a2) (fzs [d, d2]) [.ref a, .ref a2] (List.zipWith (fun x y => .tup [x, y]) xs ys) := by
  intro P H fz rr i
  simp only [fzs] at rr
  obtain ⟨rr1, rr2⟩ := rr.nil_split
  have rr2 := rr2.one
  obtain ⟨a', vs, e, q, rs⟩ := seqK' rr1 hd
  cases e
  obtain ⟨a', vs2, e, q2, rs2⟩ := seqK' rr2 hd2
  cases e
  have ln := rs.length
  have ln2 := rs2.length
  rw [fzs_eq, List.length_map] at ln ln2
  refine ⟨fun x hx => ?_, fun hi => ⟨vs, vs2, q, q2, by simp at hi; omega⟩⟩
  rw [List.getElem?_zipWith] at hx
  cases hk : xs[i]? with
  | none => rw [hk] at hx; cases hx
  | some y =>
    cases hk2 : ys[i]? with
    | none => rw [hk, hk2] at hx; cases hx
    | some y2 =>
      rw [hk, hk2] at hx
      cases hx
      obtain ⟨v, hv, rv⟩ := seq_get rs hk
      obtain ⟨v2, hv2, rv2⟩ := seq_get rs2 hk2
      refine ⟨⟨vs, vs2, v, v2, q, q2, hv, hv2⟩, fun v' H' ⟨T, x, x2, e, hT, e2, hx, hx2⟩ => ?_⟩
      subst e e2
      have z1 := hx vs q
      rw [hv] at z1
      cases z1
      have z2 := hx2 vs2 q2
      rw [hv2] at z2
      cases z2
      refine .plain (same_new hT) ?_
      simp only [D.fz, fzs]
      exact .tup (as := []) upd_same (.cons (as := []) (bs := []) (rv.mono (same_new hT) fun _ z => z) (.cons (as := []) (bs := []) (rv2.mono (same_new hT) fun _ z => z) .nil))
theorem di_zip {e2 : Expr} {p pos tpos : Pos} {elts : List Expr} {kk : Nat} (hg : Gl X "zip") (hm : X.mg "zip" = none) (ha : DA X W [e, e2] rd l)
    (hs : starEach [e, e2] X.env = (false, eval e X.env) :: starEach [e2] X.env := by rfl) (hpl : (backTo pos (starEach [e2] X.env)).any (·.1) = false := by rfl) :
    DI X W (.Tuple elts kk tpos) (.Call (.Name "zip" p) [e, e2] [] pos) rd l giZip := by
  refine ⟨fun pins s σ H R I h => ?_⟩
  have h' := tI_args (C := fun vs H1 J => ∃ b c a d xs ys, vs = [.ref a, .ref d] ∧ SqK b X.K H1 a xs ∧ SqK c X.K H1 d ys ∧ J = ItZ b c X.K a d) (fun P as ds vs H1 xs rr hg => by
    unfold giZip at hg
    split at hg
    · rename_i d d2
      obtain ⟨v, u, a1, a2, rfl, rfl, r1, r2⟩ := rr.pair
      split at hg
      · rename_i xs ys hs hs2
        cases hg
        obtain ⟨a, us, rfl, q⟩ := seqK0 r1 hs
        obtain ⟨a2, us2, rfl, q2⟩ := seqK0 r2 hs2
        exact ⟨_, [d, d2], [.ref a, .ref a2], ⟨_, _, a, a2, us, us2, rfl, q, q2, rfl⟩, fun _ h => h, itok_zip hs hs2⟩
      · cases hg
    · cases hg) h
  refine Call_ (ld_blt I hg hm PyProof.Rows.boot_zip (PyProof.Rows.callWith_type1 (thn (ha.run pos pins s σ H _ I h') fun us s1 ⟨vs, H1, I1, r1, J, ⟨b, c, a, d, xs, ys, ex, hq, hq2, eJ⟩, q⟩ => ?_) hs hpl))
  subst ex eJ
  cases r1 with
  | cons r rr =>
    cases rr with
    | cons r' rr =>
      cases rr
      cases r
      cases r'
      obtain ⟨its, rv, p1, hz⟩ := srcOf I1 hq
      obtain ⟨its2, rv2, p2, hz2⟩ := srcOf I1 hq2
      refine zip_begins2 (beginsA b a its.toArray) (beginsA c d its2.toArray) p1 p2 fun h' hzip hTI hTO h1 h2 hsz hk => wpAny_pyIter_zip hzip ?_
      have I2 : Inv X pins σ H1 { s1 with heap := h' } := I1.kept (t' := s1.toks) hk
      refine ⟨s1.heap.objs.size + 4, [s1.heap.objs.size + 4, s1.heap.objs.size + 2, s1.heap.objs.size + 3, s1.heap.objs.size, s1.heap.objs.size + 1], _, _, H1, rfl, I2, turn_zipA (b := b) (c := c) (a := a) (d := d) (zip_sep2 (fun x hx => by rw [List.mem_singleton.mp hx]; exact hz) (fun x hx => by rw [List.mem_singleton.mp hx]; exact hz2)) (Nat.ne_of_lt hz) (Nat.ne_of_lt (Nat.lt_succ_of_lt hz2)),
        ⟨hzip, hTI, ⟨_, _, hTO⟩, itA_new b h' _ a h1, itA_new c h' _ d h2⟩, fun x hx => ?_, q⟩
      have e' : x = s1.heap.objs.size + 4 ∨ x = s1.heap.objs.size + 2 ∨ x = s1.heap.objs.size + 3 ∨ x = s1.heap.objs.size ∨ x = s1.heap.objs.size + 1 := by simpa using hx
      have hle : s1.heap.objs.size ≤ x := by
        rcases e' with z | z | z | z | z
        · rw [z]; exact Nat.le_add_right _ _
        · rw [z]; exact Nat.le_add_right _ _
        · rw [z]; exact Nat.le_add_right _ _
        · rw [z]; exact Nat.le_refl _
        · rw [z]; exact Nat.le_add_right _ _
      exact pi_fresh I1 hle
/-- d.values(), d.items() -/
def giVals : List D → Option (List D)
  | [d] => (dicOf d).map fun kvs => kvs.map (·.2)
  | _ => none
def giItems : List D → Option (List D)
  | [d] => (dicOf d).map fun kvs => kvs.map fun p => .tup [p.1, p.2]
  | _ => none
theorem di_vals {apos cpos : Pos} (he : DE X W e rd f) (hbase : attributeBase e "values" X.env (eval e X.env) = eval e X.env := by rfl) (hline : (apos.endLine == cpos.line) = true := by rfl) :
    DI X W tg (.Call (.Attribute e "values" apos) [] [] cpos) rd (lC f lN) giVals := by
  refine ⟨fun pins s σ H R I h => ?_⟩
  have h' := tI_expr (C := fun vs H1 J => ∃ a es ep, vs = [.ref a] ∧ (a == sysModules) = false ∧ H1 a = some (.ext (dphi a es ep)) ∧ J = ItD (·.val) a es ep) (fun P as ds vs H1 xs rr hg => by
    unfold giVals at hg
    split at hg
    · rename_i d
      obtain ⟨v, rfl, r1⟩ := rr.sing
      cases hd : dicOf d with
      | none => rw [hd] at hg; cases hg
      | some kvs =>
        rw [hd] at hg
        cases hg
        obtain ⟨a, es, ep, rfl, q, ns, hz⟩ := dic0 r1 hd
        exact ⟨_, [.pin a es ep, d], [.bl true, .ref a], ⟨a, es, ep, rfl, ns, q, rfl⟩, fun P' h => pin_ok hd q h, itok_dic hd hz (.inr ⟨rfl, rfl⟩)⟩
    · cases hg) h
  refine wpAny_Call_method (T := "dict") (id := "dict.values") hbase rfl hline F.plainAttrs_dict F.slot_dict_values F.type_dict_values (thn (he.run pins s σ H _ I h') fun u s1 ⟨x, H1, I1, rx, J, ⟨a, es, ep, e, ns, hd, eJ⟩, q⟩ => ?_)
  obtain rfl : x = .ref a := by simpa using e
  subst eJ
  obtain rfl : u = Value.ref a := rx
  have hm := Inv.raw I1 hd
  obtain ⟨o, ho, hex, hdat⟩ := id hm
  refine ⟨hm.typeIs, fun _ z => by cases z; exact ⟨o, ho, hex.2.1⟩, ?_⟩
  have I2 : Inv X pins σ H1 { s1 with heap := s1.heap.push { cls := .type "dict_values", data := .fields #[.ref a] } } := I1.kept (t' := s1.toks) fun b ob q => Heap.get?_push_of_some _ q
  have hm2 : (s1.heap.push { cls := .type "dict_values", data := .fields #[.ref a] }).DictRaw a es ep := hm.at fun o e => Heap.get?_push_of_some _ e
  have fin : wpAny (model X.prog X.w) X.A (pyIter (.ref s1.heap.objs.size)) (PIE X pins σ tg R) X.xe { s1 with heap := s1.heap.push { cls := .type "dict_values", data := .fields #[.ref a] } } := by
    refine wpAny_pyIter_values_raw (d := a) ⟨_, Heap.get?_push_size _ rfl, rfl, rfl⟩ hm2 ?_
    exact pi_one (tk := s1.toks) I2 _ (turn_dvals a _ (Nat.ne_of_lt hm2.lt_size) es ep) ⟨_, Heap.get?_push_size _ rfl, rfl, rfl⟩ q
  show wpAny _ _ (callWith cpos (.builtin "dict.values") [.ref a] [] []) _ X.xe s1
  exact method_meetsIn F.slot_dict_values F.entry_dict_values rfl (PySem.evalArgs_none ⟨rfl, hm.typeIs, F.args_dict_values_1 _, _, meets_dict_values_raw a ns, ⟨es, ep, hm⟩, fin⟩)
theorem di_items {apos cpos tpos : Pos} {elts : List Expr} {kk : Nat} (he : DE X W e rd f) (hbase : attributeBase e "items" X.env (eval e X.env) = eval e X.env := by rfl) (hline : (apos.endLine == cpos.line) = true := by rfl) :
    DI X W (.Tuple elts kk tpos) (.Call (.Attribute e "items" apos) [] [] cpos) rd (lC f lN) giItems := by
  refine ⟨fun pins s σ H R I h => ?_⟩
  have h' := tI_expr (C := fun vs H1 J => ∃ a es ep, vs = [.ref a] ∧ (a == sysModules) = false ∧ H1 a = some (.ext (dphi a es ep)) ∧ J = ItDI a es ep) (fun P as ds vs H1 xs rr hg => by
    unfold giItems at hg
    split at hg
    · rename_i d
      obtain ⟨v, rfl, r1⟩ := rr.sing
      cases hd : dicOf d with
      | none => rw [hd] at hg; cases hg
      | some kvs =>
        rw [hd] at hg
        cases hg
        obtain ⟨a, es, ep, rfl, q, ns, hz⟩ := dic0 r1 hd
        exact ⟨_, [.pin a es ep, d], [.bl true, .ref a], ⟨a, es, ep, rfl, ns, q, rfl⟩, fun P' h => pin_ok hd q h, itok_items hd hz⟩
    · cases hg) h
  refine wpAny_Call_method (T := "dict") (id := "dict.items") hbase rfl hline F.plainAttrs_dict F.slot_dict_items F.type_dict_items (thn (he.run pins s σ H _ I h') fun u s1 ⟨x, H1, I1, rx, J, ⟨a, es, ep, e, ns, hd, eJ⟩, q⟩ => ?_)
  obtain rfl : x = .ref a := by simpa using e
  subst eJ
  obtain rfl : u = Value.ref a := rx
  have hm := Inv.raw I1 hd
  obtain ⟨o, ho, hex, hdat⟩ := id hm
  refine ⟨hm.typeIs, fun _ z => by cases z; exact ⟨o, ho, hex.2.1⟩, ?_⟩
  have I2 : Inv X pins σ H1 { s1 with heap := s1.heap.push { cls := .type "dict_items", data := .fields #[.ref a] } } := I1.kept (t' := s1.toks) fun b ob q => Heap.get?_push_of_some _ q
  have hm2 : (s1.heap.push { cls := .type "dict_items", data := .fields #[.ref a] }).DictRaw a es ep := hm.at fun o e => Heap.get?_push_of_some _ e
  have fin : wpAny (model X.prog X.w) X.A (pyIter (.ref s1.heap.objs.size)) (PIE X pins σ (.Tuple elts kk tpos) R) X.xe { s1 with heap := s1.heap.push { cls := .type "dict_items", data := .fields #[.ref a] } } := by
    refine wpAny_pyIter_items_raw (d := a) ⟨_, Heap.get?_push_size _ rfl, rfl, rfl⟩ hm2 ?_
    exact pi_one (tk := s1.toks) I2 _ (turn_ditems a _ (Nat.ne_of_lt hm2.lt_size) es ep) ⟨_, _, Heap.get?_push_size _ rfl⟩ q
  show wpAny _ _ (callWith cpos (.builtin "dict.items") [.ref a] [] []) _ X.xe s1
  exact method_meetsIn F.slot_dict_items F.entry_dict_items rfl (PySem.evalArgs_none ⟨rfl, hm.typeIs, F.args_dict_items_1 _, _, meets_dict_items_raw a ns, ⟨es, ep, hm⟩, fin⟩)
end
end DL

set_option Elab.async false
set_option linter.all false
set_option maxRecDepth 100000
set_option maxHeartbeats 1000000
namespace PySem
namespace WayX
open PySem.W PySem.Calls PyProof.Rows PySem.HandSPX
def iA (p1 p2 : Pos) : Arguments := { posonlyargs := [], args := [{ arg := "self", annotation := none, pos := p1 }, { arg := "at", annotation := none, pos := p2 }], vararg := none, kwonlyargs := [], kw_defaults := [], kwarg := none, defaults := [] }
def iB (q1 q2 q3 q4 q5 q6 q7 q8 q9 q10 : Pos) : List Stmt := [.Expr (.Call (.Attribute (.Call (.Name "super" q1) [] [] q2) "__init__" q3) [.Name "at" q4] [] q5) q6, .Assign [.Attribute (.Name "self" q7) "at" q8] (.Name "at" q9) q10]
def iS : Scope := { kind := .function, names := [(PySem.Str.ofString "self", .local), (PySem.Str.ofString "at", .local), (PySem.Str.ofString "__class__", .free), (PySem.Str.ofString "super", .globalImplicit)], isGenerator := false, isCoroutine := false, more := [] }
/-- what the written part says of the error class nC, at C; D: WayError itself, fI its __init__, cc the cell that names it -/
structure WayTxt (p : Program) (K : Frag) (mg : Str → Option Value) (nC : Str) (C fI D cc : Addr) : Prop where
  gC : mg nC = some (.ref C)
  cls : ∃ nm q N bs bm sn sub ab col dd k0 k1 k2 k3 k5, K.lookup C = some (excClassObj nm q C N bs bm true sn sub ab col dd k0 k1 k2 k3 k5 "ValueError.__new__") ∧ refsVE bm = true
  sa : findIn K (.ref C) "__setattr__" = some (some (.builtin "object.__setattr__"))
  ga : findIn K (.ref C) "__getattribute__" = some (some (.builtin "BaseException.__getattribute__"))
  gg : findIn K (.ref C) "__getattr__" = some none
  noN : findIn K (.ref C) "at" = some none
  iC : findIn K (.ref C) "__init__" = some (some (.ref fI))
  tC : typeIn K (.ref fI) = some (.type "function")
  kC : keepIn K (.ref C) = true
  exC : subIn K (.ref C) (.type "BaseException") = some true
  tyC : typeIn K (.ref C) = some (.type "type")
  hdC : hasDictIn K C = true
  sup : ks_superIn K C D "__init__" = some (some (.builtin "ValueError.__init__"))
  subV : subIn K (.ref C) (.type "ValueError") = some true
  mroD : mroIn K C (.ref D) = some true
  clD : (clsIn K D).isSome = true
  opq : nsIn K cStatics "thirdparty.any" = some none
  noS : mg "super" = none
  top : (p.main.scope.names.lookup ("super" : Str)).isSome = false
  fn : ∃ (oc : Value) (od : Option Addr) (doc pm : Value) (an : Option Addr) (cda : Addr) (ct : Value) (osl : Array (Option Value)) (p1 p2 q1 q2 q3 q4 q5 q6 q7 q8 q9 q10 : Pos) (cl : Value) (cld : Option Addr) (csl : Array (Option Value)) (ccl : Value) (cdd : Option Addr) (vs : Array Value) (ccs : Array (Option Value)) (file : Str) (tf : Tok), (q3.endLine == q5.line) = true ∧
    K.lookup fI = some ⟨oc, od, .func (ksFn "__init__" "WayError.__init__" (iA p1 p2) (iB q1 q2 q3 q4 q5 q6 q7 q8 q9 q10) iS .none .none doc pm an (.ref cda) ct cc), osl⟩ ∧ codeIn K (.ref cda) "WayError.__init__" = true ∧
      K.lookup cc = some ⟨cl, cld, .cell (some (.ref D)), csl⟩ ∧ K.lookup cda = some ⟨ccl, cdd, .fields vs, ccs⟩ ∧ vs[2]? = some (.str file tf) ∧ ((p.main.file : Str) == file) = true
theorem boot_super : bootBuiltins "super" = some (.type "super") := by decide +kernel
theorem one_size (v : Value) : [v].length ≤ sizeLine := by
  rw [sizeLine_eq]
  exact (by decide : 1 ≤ 16777216)
/-- what __init__ leaves of a fresh exception at x -/
structure InitEnd (h h' : Heap) (x C dx t1 : Addr) (v : Value) : Prop where
  keep : ∀ b o, b ≠ x → h.get? b = some o → h'.get? b = some o
  obj : h'.get? x = some { cls := .ref C, dict := some dx, data := .fields #[.ref t1, .none, .none, .none, .bool false, .none] }
  dbig : h.objs.size ≤ dx
  dne : dx ≠ x
  ns : h'.Ns1 dx (fun y => if y = "at" then some v else none)
structure OwnMade (h h' : Heap) (e C d : Addr) (v : Value) : Prop where
  keep : ∀ b o, h.get? b = some o → h'.get? b = some o
  new : h.objs.size ≤ e
  obj : ∃ oe vs, h'.get? e = some oe ∧ oe.cls = .ref C ∧ oe.dict = some d ∧ oe.data = .fields vs ∧ vs[1]? = some .none
  dbig : h.objs.size ≤ d
  dne : d ≠ e
  ns : h'.Ns1 d (fun y => if y = "at" then some v else none)
section
variable {prog : Program} {w : World} {A : Around} {E : Value → Shared → Prop} {R : Result → Shared → Prop} {s : Shared} {K : Frag} {mg mb : Str → Option Value} {C fI D cc : Addr} {nC : Str}
theorem kept_but {K : Frag} {h h' : Heap} {x : Addr} (X : K.In h) (hx : K.lookup x = none) (k : ∀ b o, b ≠ x → h.get? b = some o → h'.get? b = some o) : K.In h' := fun a o e =>
  k a o (fun z => by rw [z, hx] at e; cases e) (X a o e)
theorem way_meth {M : Model} {c : Code} {env : Env} {o e : Expr} {name : Str} {apos pos : Pos} {Q : Value → Shared → Prop} (hline : (apos.endLine == pos.line) = true)
    (h : _root_.PySem.wpAt M A c (attributeBase o name env (eval o env)) (fun ov s₁ => wpAny M A (getMethod ov name (do return (← importBound o env).getD true)) (fun fx s₂ => wpAny M A (callWith pos fx.1 fx.2 (backTo pos (starEach [e] env)) []) Q E s₂) E s₁) E s)
    (hform : methodCallForm ([e].length + ([] : List Keyword).length) (backTo pos (starEach [e] env)) (backToKw pos (keywordEach [] env)) = true := by rfl) :
    _root_.PySem.wpAt M A c (eval (.Call (.Attribute o name apos) [e] [] pos) env) Q E s := by
  rw [arm_eval_Call]
  refine _root_.PySem.wpAt_bind (_root_.PySem.wpAt_mono h (fun ov s₁ h₁ => wpAt_of_wpAny (wpAny_bind (wpAny_standAt ?_))) fun _ _ x => x)
  have hpos : methodCallPos true o env apos pos = pure pos := by unfold methodCallPos; simp [hline]
  unfold methodCall
  rw [hform]
  refine wpAny_bind (wpAny_holding (wpAny_mono h₁ (fun fx s₂ h₂ => ?_) fun _ _ x => x))
  exact wpAny_bind (wpAny_of_eq hpos h₂)
theorem ldC {M : Model} {name : Str} {scope : Scope} {L a c : Addr} {cd : Value} {m : Str → Option Value} {x : Str} {pos : Pos} {v : Value} {Q : Value → Shared → Prop} (hn : s.heap.Ns L m) (hv : m x = some v) (h : Q v s)
    (hk : scope.kind = .function := by rfl) (hl : (ksEnv name scope L a cd c).kindOf x = some .local := by rfl) (hd : (x == ("__debug__" : Str)) = false := by decide) :
    wpAny M A (eval (.Name x pos) (ksEnv name scope L a cd c)) Q E s := wpAny_Name (wpAny_loadName_local hk hl hn hv h) hd
theorem way_init (T : WayTxt prog K mg nC C fI D cc) {x t0 : Addr} {v : Value} (X : K.In s.heap) (hlim : s.heap.NoLimit) (G : s.heap.Ns mainGlobals mg) (Bt : s.heap.Ns builtinsNs mb) (hb : mb "super" = bootBuiltins "super")
    (hx : s.heap.get? x = some (excO C t0)) (hnx : K.lookup x = none) (hroom : A.depth < recursionLimit)
    (hq : ∀ h' tk dx t1, InitEnd s.heap h' x C dx t1 v → R (.ok (.ret .none)) { s with heap := h', toks := tk }) :
    codeAny (model prog w) A (.call (.ref fI) ⟨[.ref x, v], []⟩) R s := by
  obtain ⟨oc, od, doc, pm, an, cda, ct, osl, p1, p2, q1, q2, q3, q4, q5, q6, q7, q8, q9, q10, cl, cld, csl, ccl, cdd, vs, ccs, file, tf, hline, ho, hcd, hcell, hcode, hvs, hfile⟩ := T.fn
  obtain ⟨nm, q, N, bs, bm, sn, sub, ab, col, dd, k0, k1, k2, k3, k5, hC, hbm⟩ := T.cls
  have hcl : clsIn K C = some { name := nm, bases := bs, mro := .ref C :: bm, ns := N, qualname := q, hasDict := true, slotNames := sn, subclasses := sub, abstract := ab, collection := col, hasDel := false } := by unfold clsIn; rw [hC] <;> rfl
  obtain ⟨cdD, hcdD⟩ := Option.isSome_iff_exists.mp T.clD
  obtain ⟨hp, g, d, tk, os⟩ := s
  refine ks_codeAny_call_defAt (fd := ksFn "__init__" "WayError.__init__" (iA p1 p2) (iB q1 q2 q3 q4 q5 q6 q7 q8 q9 q10) iS .none .none doc pm an (.ref cda) ct cc) (body := iB q1 q2 q3 q4 q5 q6 q7 q8 q9 q10) (binds := [("self", .ref x), ("at", v)])
    hroom (X _ _ ho) rfl hlim (codeRec_of X hcd) rfl (BindsTo.of_eq (by first | rfl | with_unfolding_all rfl)) (show ∀ y ∈ iS.names, y.2 ≠ .cell by decide) (by intro y hy; rcases List.mem_cons.mp hy with rfl | hy <;> first | rfl | (rcases List.mem_cons.mp hy with rfl | hy <;> first | rfl | cases hy)) (fun h₁ hn hk₁ => ?_) rfl rfl rfl
  have k₁ : ∀ b o, hp.get? b = some o → h₁.get? b = some o := hk₁
  have X₁ : K.In h₁ := X.keeps k₁
  have hx₁ := k₁ _ _ hx
  obtain ⟨oD, hD1, hD2⟩ : ∃ oD, h₁.get? D = some oD ∧ oD.data = .cls cdD := by
    unfold clsIn at hcdD
    split at hcdD
    · rename_i c d cd' sl ho
      cases hcdD
      exact ⟨_, X₁ _ _ ho, rfl⟩
    · cases hcdD
  have I₁ : InstAt h₁ x (excO C t0) C none := ⟨hx₁, rfl, rfl, trivial⟩
  have hxC : x ≠ C := ks_ne X₁ I₁ hcl
  show _root_.PySem.wpAt _ _ _ (execs _ _) _ _ _
  refine ks_wpAt_execs_cons (ks_wpAt_Expr_any (way_meth hline ?_) rfl rfl)
  refine ks_wpAt_super_base (env := ksEnv "WayError.__init__" iS hp.objs.size fI (.ref cda) cc) rfl rfl (by decide) rfl (X₁ _ _ ho) rfl rfl rfl (X₁ _ _ hcode) rfl hvs hfile T.top ?_
  refine ks_loadName_global rfl rfl (loadGlobal_builtin (env := ksEnv "WayError.__init__" iS hp.objs.size fI (.ref cda) cc) (G.keeps k₁) T.noS (Bt.keeps k₁) (hb.trans boot_super) ⟨rfl, ?_⟩)
  refine wpAny_loadName_free rfl rfl rfl ⟨_, X₁ _ _ hcell, rfl⟩ ?_
  refine wpAny_loadName_local (v := .ref x) rfl rfl hn (by first | rfl | with_unfolding_all rfl | kernel_rfl) ?_
  refine ks_wpAny_isType_cls hD1 hD2 ⟨rfl, ?_⟩
  refine ks_wpAny_call_super hD1 hD2 hx₁ rfl (fun c e => by cases e) (looks_mroIn X₁ T.mroD) (fun h₂ e₂ k₂ => ?_)
  have X₂ : K.In h₂ := X₁.keeps k₂
  have I₂ : InstAt h₂ x (excO C t0) C none := ⟨k₂ _ _ hx₁, rfl, rfl, trivial⟩
  have hsup := T.sup
  unfold ks_superIn at hsup
  rw [hcl, Option.bind_some] at hsup
  refine kxs_getMethod kxs_ValueError e₂ (looks_opaque X₂ T.opq) (l₀ := .ref C :: bm) ((looks_clsIn X₂ hcl).andThen .now) rfl X₂ hsup (I₂.type.andThen (looks_subIn X₂ T.subV)) hxC (by decide) ?_
  -- the wrapper, called
  show wpAny _ _ (callWith _ (.ref h₂.objs.size) [] _ []) _ _ _
  have k₃ : ∀ b o, h₁.get? b = some o → (h₂.push (kxs_mw "ValueError.__init__" x)).get? b = some o := fun b o e => Heap.get?_push_of_some _ (k₂ b o e)
  have hx₃ := k₃ _ _ hx₁
  have hu₃ : (h₂.push (kxs_mw "ValueError.__init__" x)).get? h₂.objs.size = some (kxs_mw "ValueError.__init__" x) := Heap.get?_push_size _ rfl
  have X₃ : K.In (h₂.push (kxs_mw "ValueError.__init__" x)) := X₁.keeps k₃
  have hn₃ : (h₂.push (kxs_mw "ValueError.__init__" x)).Ns hp.objs.size (fun y => ([("self", Value.ref x), ("at", v)] : List (Str × Value)).reverse.lookup y) := by
    obtain ⟨oL, es, ep, hL, r⟩ := hn
    exact ⟨oL, es, ep, k₃ _ _ hL, r⟩
  refine kxs_callWith (i := "ValueError.__init__") (x := x) rfl (evalArgs_plain ?_)
  refine args_cons (e := .Name "at" q4) (rest := []) (pos := q5) (env := ksEnv "WayError.__init__" iS hp.objs.size fI (.ref cda) cc) (ldC (v := v) hn₃ (by first | rfl | with_unfolding_all rfl | kernel_rfl) (args_nil ?_)) rfl
  refine ⟨hu₃, ?_⟩
  show wpAny _ _ (call (.ref h₂.objs.size) [v]) _ _ _
  have FB := F.excBase_ValueError
  refine wpAny_call (codeAny_of_tree ?_)
  show wpAny _ _ (callAny (.ref h₂.objs.size) ⟨[v], []⟩) _ _ _
  simp only [callAny]
  refine wpAny_bind (wpAny_load hu₃ ?_)
  simp only [kxs_mw, show (Value.type "method-wrapper" == Value.type "method" || Value.type "method-wrapper" == Value.type "builtin_function_or_method" || Value.type "method-wrapper" == Value.type "method-wrapper") = true by decide, if_true]
  refine KFB.if_so (by decide) ?_
  refine wpAny_bind (check_bound_init FB.toExcCallFacts (X₃ _ _ hC) hx₃ rfl ?_)
  refine wpAny_bind (wpAny_pure (wpAny_pure ?_))
  refine ⟨plainId_quiet FB.init.plain _, codeAny_builtin FB.initEntry ?_⟩
  refine exc_init_tree (cls := .ref C) (t0 := t0) (dv := none) (c2 := .none) (c3 := .none) (b4 := .bool false) hx₃ (one_size v) fun h₄ k₄ hx₄ ht₄ => ?_
  -- self.at = at
  have kL : hp.objs.size ≠ x := Nat.ne_of_gt (Heap.lt_size hx)
  have hn₄ : h₄.Ns hp.objs.size (fun y => ([("self", Value.ref x), ("at", v)] : List (Str × Value)).reverse.lookup y) := by
    obtain ⟨oL, es, ep, hL, r⟩ := hn₃
    exact ⟨oL, es, ep, k₄ _ _ kL hL, r⟩
  have X₄ : K.In h₄ := kept_but X₃ hnx k₄
  show _root_.PySem.wpAt _ _ _ (execs _ _) _ _ _
  refine ks_wpAt_execs_cons (wpAt_of_wpAny (plainObj_wpAny_Assign_Attribute ?_))
  refine ldC (v := v) hn₄ (by first | rfl | with_unfolding_all rfl | kernel_rfl) (ldC (v := .ref x) hn₄ (by first | rfl | with_unfolding_all rfl | kernel_rfl) ?_)
  refine set_plain X₄ (ox := excO C (h₂.push (kxs_mw "ValueError.__init__" x)).objs.size) (od := none) ⟨hx₄, rfl, rfl, trivial⟩ T.sa ?_
  refine exc_osa X₄ hx₄ hcl (show refsVE (.ref C :: bm) = true from hbm) rfl T.noN (fun h₅ tk₅ dx k₅ dn dne hx₅ hn₅ => ?_)
  show _root_.PySem.wpAt _ _ _ (execs _ _) _ _ _
  have z : hp.objs.size < h₁.objs.size := hn.lt
  have big : hp.objs.size ≤ dx := by
    refine Nat.le_trans (Nat.le_of_lt hn₄.lt) dn
  refine wpAt_of_wpAny (wpAny_execs_nil (hq h₅ tk₅ dx _ ⟨fun b o hb e => k₅ b o hb (k₄ b o hb (k₃ b o (k₁ b o e))), hx₅, big, dne, hn₅⟩))
theorem way_made (T : WayTxt prog K mg nC C fI D cc) {v : Value} (X : K.In s.heap) (hlim : s.heap.NoLimit) (G : s.heap.Ns mainGlobals mg) (Bt : s.heap.Ns builtinsNs mb) (hb : mb "super" = bootBuiltins "super") (hroom : A.depth + 1 < recursionLimit)
    (hq : ∀ h' tk e d, OwnMade s.heap h' e C d v → R (.ok (.ret (.ref e))) { s with heap := h', toks := tk }) :
    codeAny (model prog w) A (.call (.ref C) ⟨[v], []⟩) R s := by
  obtain ⟨nm, q, N, bs, bm, sn, sub, ab, col, dd, k0, k1, k2, k3, k5, hC, hbm⟩ := T.cls
  obtain ⟨hp, g, dr, tk, os⟩ := s
  have k : ∀ b o, hp.get? b = some o → ((hp.push (kdv_tup [v])).push (excO C hp.objs.size)).get? b = some o := fun b o e => Heap.get?_push_of_some _ (Heap.get?_push_of_some _ e)
  have hget : ((hp.push (kdv_tup [v])).push (excO C hp.objs.size)).get? (hp.objs.size + 1) = some (excO C hp.objs.size) := by heap_get
  have hnx : K.lookup (hp.objs.size + 1) = none := by
    cases e : K.lookup (hp.objs.size + 1) with
    | none => rfl
    | some o =>
      have z : hp.get? (hp.objs.size + 1) = some o := X _ _ e
      exact absurd (Nat.lt_of_succ_lt (Heap.lt_size z)) (Nat.lt_irrefl _)
  refine call_own F.excBase_ValueError (fun X => refsVE_contains X bm hbm) (X _ _ hC) (looks_findIn X T.iC) (fun self => bind_fn X self T.tC) (one_size v) ?_
  refine way_init (s := ⟨(hp.push (kdv_tup [v])).push (excO C hp.objs.size), g, dr, tk, os⟩) T (X.keeps k) (hlim.keeps k) (G.keeps k) (Bt.keeps k) hb hget hnx ?_ fun h' tk' dx t1 ⟨k', hx, dn, dne, hns⟩ => ?_
  · show A.depth + 1 < recursionLimit
    exact hroom
  · have old : ∀ b o, hp.get? b = some o → h'.get? b = some o := fun b o e => k' b o (Nat.ne_of_lt (Nat.lt_succ_of_lt (Heap.lt_size e))) (k b o e)
    have z : hp.objs.size + 1 + 1 ≤ dx := by
      first
        | (simpa only [Heap.size_push] using dn)
        | exact dn
        | (have q := dn; rw [Heap.size_push, Heap.size_push] at q; exact q)
    exact ⟨rfl, hq h' tk' (hp.objs.size + 1) dx ⟨old, Nat.le_succ _, ⟨_, _, hx, rfl, rfl, rfl, rfl⟩, Nat.le_trans (Nat.le_trans (Nat.le_succ _) (Nat.le_succ _)) z, dne, hns⟩⟩
end
end WayX
end PySem

set_option Elab.async false
set_option linter.all false
set_option maxRecDepth 100000
set_option maxHeartbeats 1000000
namespace L2
open PySem PySem.Spec PyProof.Rows
section
variable {X : Cx} {C fI D cc : Addr} {nC : Str}
/-- X(e), X an own error class below WayError -/
def tMkWay (C : Addr) (ta : TA) : St → Hp → XK → Prop := fun σ H Q => ta σ H fun vs H1 => ∃ v, vs = [v] ∧ ∀ d, H1 d = none → Q (.ref C) (some d) (upd H1 d (.xd [(("at" : Str), v)]))
theorem relO_way {v : V} {v' : Value} (r : RelV v v') (f : Str) : RelO (List.lookup f [(("at" : Str), v)]) (if f = "at" then some v' else none) := by
  by_cases hw : f = "at"
  · subst hw
    rw [if_pos rfl]
    have q : List.lookup ("at" : Str) [(("at" : Str), v)] = some v := by simp [List.lookup]
    rw [q]
    exact r
  · rw [if_neg hw]
    have qw : (f == ("at" : Str)) = false := by simpa using hw
    have q2 : List.lookup f [(("at" : Str), v)] = none := by simp [List.lookup, qw]
    rw [q2]
    trivial
theorem pmk_way {a : Expr} {ta : TA} {p pos : Pos} {k : Nat} (T : PySem.WayX.WayTxt X.prog X.K X.mg nC C fI D cc) (hr : Room (k + 1) X.A) (ha : PA X [a] ta) (hg : Gl X nC) (hd : (nC == ("__debug__" : Str)) = false)
    (he : starEach (a :: []) X.env = (false, eval a X.env) :: starEach [] X.env := by rfl) (hpl : (backTo pos (starEach [] X.env)).any (·.1) = false := by rfl) :
    PMk X (.Call (.Name nC p) [a] [] pos) (tMkWay C ta) := by
  intro pins s σ H Q I h
  refine wpAny_Call_Name_kw (ld_glob I hg T.gC ?_ hd)
  refine PySem.W.callWith_K (h₀ := X.base) I.ok.mod.kin T.kC (thn (ha.run pos pins s σ H _ I h) fun us s1 hh => ?_) he hpl
  obtain ⟨vs, H1, I1, r1, v, ev, q1⟩ := hh
  subst ev
  refine ⟨I1.kIn, ?_⟩
  cases r1 with
  | cons rv rn =>
    rename_i v' us'
    cases rn
    show wpAny _ _ (call (.ref C) [v']) _ _ _
    have hlim := I1.nolimit
    obtain ⟨mb, hb1, hb2⟩ := I1.ok.mod.blt
    have G := I1.ok.mod.glob.keeps I1.bk
    have Bt := hb1.keeps I1.bk
    obtain ⟨hp, g, dr, tk, os⟩ := s1
    refine wpAny_call (PySem.WayX.way_made T I1.kIn hlim G Bt (hb2 _ (by decide)) (by have := hr.dp; omega) fun h' tk' e d M => ?_)
    show MkP X pins σ Q (.ref e) ⟨h', g, dr, tk', os⟩
    obtain ⟨oe, fv, hoe, hc, hd, hdat, h1⟩ := M.obj
    have hns := M.ns
    obtain ⟨G', g1, g2⟩ := restrict h' fun b => decide (b ≠ e)
    have gk : ∀ b, b ≠ e → G'.get? b = h'.get? b := fun b hb => g1 b (decide_eq_true hb)
    have ge : G'.get? e = none := g2 e (by simp)
    have old : ∀ b o, hp.get? b = some o → G'.get? b = some o := fun b o q => (gk b (Nat.ne_of_lt (Nat.lt_of_lt_of_le (Heap.lt_size q) M.new))).trans (M.keep b o q)
    have ob : ObjOk X.prog X.w (upd H1 d (.xd [(("at" : Str), v)])) G' d (.xd [(("at" : Str), v)]) :=
      ⟨_, hns.at (fun o q => (gk d M.dne).trans q), fun f => relO_way rv f⟩
    have J : Inv X pins σ (upd H1 d (.xd [(("at" : Str), v)])) ⟨G', g, dr, tk', os⟩ := I1.laid (t' := tk') old M.dbig ob
    refine ⟨e, oe, fv, ⟨G', g, dr, tk', os⟩, _, .ref C, some d, rfl, J, fun b o q => ?_, ge, hoe, ⟨hc, hd⟩, hdat, h1, ?_, rfl, I1.bare, raises_own T.exC T.tyC, q1 d (I1.hok.fresh M.dbig)⟩
    · by_cases hb : b = e
      · have q' : G'.get? b = some o := q
        rw [hb, ge] at q'; cases q'
      · exact (gk b hb).symm.trans q
    · rw [upd_ne (Ne.symm M.dne)]
      exact I1.hok.fresh M.new

def wAsM (K : PySem.W.Frag) (Wout : WX) (D : Ends) : List (Value × Nat × (Addr → Value → Option Addr → TS)) → WX
  | [] => Wout
  | (c, i, ts) :: r => fun cls d σ H => ∃ b, PySem.W.exmOne K cls c = some b ∧ (b = true → ∀ a, H a = none → ts a cls d { nx := fun σ' H' => D.nx (σ'.set i none) H', rt := D.rt, bk := fun σ' H' => D.bk (σ'.set i none) H', ct := fun σ' H' => D.ct (σ'.set i none) H' } (σ.set i (some (.ref a))) H) ∧
      (b = false → wAsM K Wout D r cls d σ H)
inductive HdsAs (X : Cx) : List ExceptHandler → List (Value × Nat × (Addr → Value → Option Addr → TS)) → Prop
  | nil : HdsAs X [] []
  | cons {x n : Str} {c : Value} {i : Nat} {ts : Addr → Value → Option Addr → TS} {b₀ : Stmt} {suite : List Stmt} {np pos' : Pos} {hds : List ExceptHandler} {l : List (Value × Nat × (Addr → Value → Option Addr → TS))} (hi : X.N[i]? = some n) (hln : X.env.kindOf n = some .local) (hc : Names X x c)
      (hsu : ∀ (a : Addr) (oe : Obj) (cls : Value) (d : Option Addr) (pn : List (Addr × Obj)), Zc cls d oe → (∃ vs, oe.data = .fields vs) → PSs (X.suite a ((a, oe) :: pn)) (b₀ :: suite) (ts a cls d)) (r : HdsAs X hds l) :
      HdsAs X (.ExceptHandler (some (.Name x np)) (some n) (b₀ :: suite) pos' :: hds) ((c, i, ts) :: l)
theorem ps_try_asM {body : List Stmt} {h₀ : ExceptHandler} {hds : List ExceptHandler} {l : List (Value × Nat × (Addr → Value → Option Addr → TS))} {pos : Pos} {tb : WX → TS} {Wout : WX} (hs : X.stack = X.env :: X.outer) (hf : X.env.frame = some X.env.locals) (hN : X.N.Nodup) (tk : Takes X Wout)
    (hb : ∀ (W : WX) (pn : List (Addr × Obj)) (xe : Value → Shared → Prop), Takes (X.tr pn xe) W → PassesOwn (model X.prog X.w) X.A X.env xe → PSs (X.tr pn xe) body (tb W))
    (hh : HdsAs X (h₀ :: hds) l) : PS X (.Try body (h₀ :: hds) [] [] pos) (fun D σ H => tb (wAsM X.K Wout D l) D σ H) := by
  refine ⟨fun pins s σ H D I h => ?_⟩
  have ok := I.ok
  have hfr : X.A.frames = some (X.env :: X.outer) := by rw [ok.frames, hs]
  refine wpAny_Try_except ?_
  refine wpAny_mono ((hb (wAsM X.K Wout D l) (X.pn ++ pins) (fun e s₁ => wpAny (model X.prog X.w) X.A (noteFrame e X.env) (fun _ s₂ => wpAny (model X.prog X.w) X.A (setFlight e none) (fun _ s₃ =>
    wpAny (model X.prog X.w) X.A (handleBy e X.env (h₀ :: hds)) (SP X pins D) X.xe s₃) X.xe s₂) X.xe s₁) (fun u s' xx => ?_) PassesOwn.looking).run [] s σ H D (I.toTry _) h) (fun f s1 hsp => ?_) (fun e s1 he => he)
  · -- the catch
    obtain ⟨a, B, sI, pins', σ', H', cls, d, rfl, J', nb, up, sky, na, os, ag, w⟩ := xx
    have J : Inv X pins σ' H' sI := J'.ofTry ok
    have sky' : Sky B (X.env :: X.outer) a (Zc cls d) X.env.locals s'.heap := by rw [← hs]; exact sky
    show wpAny (model X.prog X.w) X.A (noteFrame (.ref a) X.env) _ _ _
    refine Sky.land Zc.steady hfr hf sky' fun h3 fl3 up3 => ?_
    have J3 : Inv X pins σ' H' { s' with heap := h3 } := J.landed nb fl3.1 (up.trans up3) os ag
    obtain ⟨oe3, vs3, he3, hz3, hd3⟩ := fl3.there
    have notFr : ∀ {h : Heap} {o : Obj} {vs : Array Value}, h.FunFrames B (X.env :: X.outer) → h.get? a = some o → o.data = .fields vs → a ∉ frs (X.env :: X.outer) := fun {h o vs} ff e dd hm => by
      obtain ⟨_, o', e', hnf⟩ := ff.mem hm
      rw [e] at e'; cases e'
      exact hnf _ dd
    have nfr := notFr fl3.2.2.1 he3 hd3
    have nL : a ≠ X.env.locals := fun z => nfr (List.mem_filterMap.mpr ⟨X.env, List.mem_cons_self, by rw [hf, z]⟩)
    have nF : a ∉ X.fs := fun hm => by
      obtain ⟨e, he, q⟩ := List.mem_filterMap.mp hm
      exact nfr (List.mem_filterMap.mpr ⟨e, List.mem_cons_of_mem _ he, q⟩)
    have S3 := J3.suite he3 hd3 na nL nF
    have go : ∀ {hds' : List ExceptHandler} {l' : List (Value × Nat × (Addr → Value → Option Addr → TS))}, HdsAs X hds' l' → wAsM X.K Wout D l' cls d σ' H' →
        wpAny (model X.prog X.w) X.A (handleBy (.ref a) X.env hds') (SP X pins D) X.xe { s' with heap := h3 } := by
      intro hds' l' hk
      induction hk with
      | nil =>
        intro w
        refine wpAny_handleBy_nil ?_
        obtain ⟨k1, k2, k3, oe, vs, T, oT, ts', he, hz, hd, h1, hr⟩ := id fl3
        unfold PySem.passOn
        refine wpAny_bind (wpAny_field he hd h1 ?_)
        rw [if_neg (show ¬ ((Value.ref T == Value.none) = true) from by simp)]
        have fin : wpAny (model X.prog X.w) X.A (setFlight (.ref a) X.env.frame) (fun _ s4 => wpAny (model X.prog X.w) X.A (throw (.ref a) : Sem Flow) (SP X pins D) X.xe s4) X.xe { s' with heap := h3 } := by
          rw [hf]
          refine HandSPX.setFlight_upZ fl3 fun h4 hh4 up4 => wpAny_throw (tk _ _ ?_)
          exact ⟨a, B, sI, pins, σ', H', cls, d, rfl, J, nb, (up.trans up3).trans up4, .inr (.inr (by rw [hs]; exact hh4)), na, os, ag, w⟩
        first
          | exact wpAny_bind (wpAny_pure (wpAny_bind fin))
          | exact wpAny_bind fin
      | @cons x n c i ts b₀ suite np pos' hds2 l2 hi hln hc hsu r ih =>
        intro w
        obtain ⟨b, hb1, hyes, hno⟩ := w
        have hloc : Loc X.env.scope n := .inl hln
        refine wpAny_handleBy_cons (codeAny_handlers_test ?_) (by intro q; cases q)
        have LT : PySem.W.Looks (model X.prog X.w) h3 (typeOf (.ref a)) cls := fun A Q E s k q => wpAny_typeOf_ref (k _ _ he3) (by rw [hz3.1]; exact q)
        have LM := PySem.W.exm_one (M := model X.prog X.w) (J3.kIn) LT hb1
        have test : ∀ {Q : Value → Shared → Prop} {E : Value → Shared → Prop}, Q c { s' with heap := h3 } → wpAny (model X.prog X.w) (X.A.mark (some (.ref a))) (eval (.Name x np) X.env) Q E { s' with heap := h3 } := fun {Q E} q => by
          obtain ⟨hg, hdbg, hm | ⟨hm, hv, hnn⟩⟩ := hc
          · exact ld_glob (X := X.suite a ((a, oe3) :: (X.pn ++ pins))) S3 hg hm q hdbg
          · exact ld_blt (X := X.suite a ((a, oe3) :: (X.pn ++ pins))) S3 hg hm hv q hnn hdbg
        refine test (LM.here ?_)
        cases b with
        | true =>
          refine codeAny_handlers_suite_as ?_
          refine HandSPX.lands_againZ fl3 fun h4 fl4 up4 => ?_
          have J4 : Inv X pins σ' H' { s' with heap := h4 } := J.landed nb fl4.1 ((up.trans up3).trans up4) os ag
          obtain ⟨oe4, vs4, he4, hz4, hd4⟩ := fl4.there
          have S4 := J4.suite he4 hd4 na nL nF
          refine store_ok (X := X.suite a ((a, oe4) :: (X.pn ++ pins))) (v := .ref a) S4 hN hi hloc rfl (fun s5 S5 => ?_) (.inr hln)
          refine wpAny_mono ((hsu a oe4 cls d (X.pn ++ pins) hz4 ⟨_, hd4⟩).run [] s5 _ H' _ S5 (hyes rfl a na)) (fun f s6 hsp => ?_) (fun _ _ z => False.elim z)
          have end_ : ∀ {σ6 : St} {H6 : Hp} {Q : Shared → Prop}, Inv (X.suite a ((a, oe4) :: (X.pn ++ pins))) [] σ6 H6 s6 → (∀ s7, Inv X pins (σ6.set i none) H6 s7 → Q s7) →
              wpAny (model X.prog X.w) X.A (do bindName X.env n .none; unbindBehindTheSuite X.env n pos') (fun _ s7 => Q s7) X.xe s6 := fun {σ6 H6 Q} S6 hq => gone_ok (S6.unsuite ok) hN hi hln hq
          cases f with
          | next =>
            obtain ⟨σ6, H6, S6, q6⟩ := hsp
            exact end_ S6 fun s7 J7 => ⟨_, _, J7, q6⟩
          | brk =>
            obtain ⟨σ6, H6, S6, q6⟩ := hsp
            exact end_ S6 fun s7 J7 => ⟨_, _, J7, q6⟩
          | cont =>
            obtain ⟨σ6, H6, S6, q6⟩ := hsp
            exact end_ S6 fun s7 J7 => ⟨_, _, J7, q6⟩
          | ret u =>
            obtain ⟨v6, σ6, H6, S6, r6, q6⟩ := hsp
            exact end_ S6 fun s7 J7 => ⟨_, _, _, J7, r6, q6⟩
        | false =>
          show wpAny _ X.A (handleBy (.ref a) X.env hds2) _ _ _
          exact ih (hno rfl)
    exact go hh w
  · cases f with
    | next =>
      obtain ⟨σ', H', J', q⟩ := hsp
      exact wpAny_execs_nil ⟨σ', H', J'.ofTry ok, q⟩
    | brk =>
      obtain ⟨σ', H', J', q⟩ := hsp
      exact ⟨σ', H', J'.ofTry ok, q⟩
    | cont =>
      obtain ⟨σ', H', J', q⟩ := hsp
      exact ⟨σ', H', J'.ofTry ok, q⟩
    | ret u =>
      obtain ⟨v, σ', H', J', r, q⟩ := hsp
      exact ⟨v, σ', H', J'.ofTry ok, r, q⟩
end
end L2

namespace DL
open PySem PySem.Spec L2
open PyProof.Rows hiding St
def sRaise (c : Str) (f : Ev) : Sv := fun ρ => match f ρ with
  | .val (.int n) => .exc c n ρ
  | .exc c n => .exc c n ρ
  | _ => .stuck
section
variable {X : Cx} {B : Fx} {rd : List Nat} {f : Ev} {k : Nat}
theorem ds_raise {nC : Str} {C fI Dw cc : Addr} {a : Expr} {p pos pos2 : Pos} (dx : Dx X B.L.W (k + 1)) (hL : B.L = lt X B.L.W) (T : PySem.WayX.WayTxt X.prog X.K X.mg nC C fI Dw cc) (ha : PE X a (tE B.L rd f)) (hg : Gl X nC) (hd : (nC == ("__debug__" : Str)) = false := by decide)
    (he : starEach (a :: []) X.env = (false, eval a X.env) :: starEach [] X.env := by rfl) (hpl : (backTo pos (starEach [] X.env)).any (·.1) = false := by rfl) :
    DS X B (.Raise (some (.Call (.Name nC p) [a] [] pos)) none pos2) (sRaise nC f) := by
  refine PSi (ps_raise dx.calm dx.tk (pmk_way T dx.rm (pa_cons ha pa_nil he) hg hd he hpl)) fun D σ H ⟨ρ, fr, fvs, r, q⟩ => ?_
  show tMkWay C _ σ H _
  obtain ⟨Q', vw, kk⟩ := r.view rd
  refine ⟨ρ, Q', vw, ?_⟩
  unfold sRaise at q
  cases hf : f ρ with
  | val d =>
    rw [hf] at q
    cases d with
    | int n =>
      intro v H1 o
      have e1 := o.same
      obtain ⟨_, _, _, rr, _⟩ := o
      cases rr
      refine ⟨.int n, rfl, fun d hd => q _ _ σ _ ((r.same e1).same (same_new hd)) ⟨C, d, ?_, rfl, rfl, upd_same⟩⟩
      rw [hL]
      exact T.gC
    | _ => exact q.elim
  | exc c n => rw [hf] at q; exact fun cls d H' e' x => q cls d σ H' (r.same e') x
  | stuck => rw [hf] at q; exact q

/-- a class that an own error may have -/
structure WayCls (K : PySem.W.Frag) (mg : Str → Option Value) (c : Str) (C : Addr) : Prop where
  gC : mg c = some (.ref C)
  xf : XfC K C
  noN : PySem.W.findIn K (.ref C) "at" = some none
/-- clause r is the first that catches an error of the class at C -/
def catchOk (K : PySem.W.Frag) (C : Addr) : List Value → Option Nat → Prop
  | [], none => True
  | [], some _ => False
  | c :: _, some 0 => PySem.W.exmOne K (.ref C) c = some true
  | c :: l, some (k + 1) => PySem.W.exmOne K (.ref C) c = some false ∧ catchOk K C l (some k)
  | c :: l, none => PySem.W.exmOne K (.ref C) c = some false ∧ catchOk K C l none
def sTry (F : Sv) (tbl : List (Str × Option Nat)) (sus : List (Nat × (Int → D))) : Sv := fun ρ => match F ρ with
  | .exc c n ρ1 => (match tbl.lookup c with
    | some (some k) => (match sus[k]? with
      | some (i, su) => if i < ρ1.length then .ret (su n) else .stuck
      | none => .stuck)
    | some none => .exc c n ρ1
    | none => .stuck)
  | r => r
/-- a suite that returns su of the error's number -/
def tSu (X : Cx) (i : Nat) (su : Int → D) (a : Addr) (cls : Value) (d : Option Addr) : TS := fun D σ H => ∃ C dd n, cls = .ref C ∧ XfC X.K C ∧ PySem.W.findIn X.K (.ref C) "at" = some none ∧ d = some dd ∧ H dd = some (.xd [(("at" : Str), .int n)]) ∧ σ[i]? = some (some (.ref a)) ∧
  ∃ P, Fz P H ∧ ∀ v H', Out X.K X.w P [] H H' (su n) v → D.rt v H'
/-- the clauses: class, slot, suite -/
inductive HdsD (X : Cx) : List ExceptHandler → List (Value × Nat × (Int → D)) → Prop
  | nil : HdsD X [] []
  | cons {x n : Str} {c : Value} {i : Nat} {su : Int → D} {b₀ : Stmt} {suite : List Stmt} {np pos' : Pos} {hds : List ExceptHandler} {l : List (Value × Nat × (Int → D))} (hi : X.N[i]? = some n) (hln : X.env.kindOf n = some .local) (hc : Names X x c)
      (hsu : ∀ (a : Addr) (oe : Obj) (cls : Value) (d : Option Addr) (pn : List (Addr × Obj)), Zc cls d oe → (∃ vs, oe.data = .fields vs) → PSs (X.suite a ((a, oe) :: pn)) (b₀ :: suite) (tSu X i su a cls d)) (r : HdsD X hds l) :
      HdsD X (.ExceptHandler (some (.Name x np)) (some n) (b₀ :: suite) pos' :: hds) ((c, i, su) :: l)
theorem HdsD.as {hds : List ExceptHandler} {l : List (Value × Nat × (Int → D))} (h : HdsD X hds l) : HdsAs X hds (l.map fun p => (p.1, p.2.1, tSu X p.2.1 p.2.2)) := by
  induction h with
  | nil => exact .nil
  | cons hi hln hc hsu r ih => exact .cons hi hln hc hsu ih
theorem try_catch {D : Ends} {fr : List DL.D} {fvs : List V} {Wout : WX} {c : Str} {C : Addr} {n : Int} {ρ1 : Env} {σ : St} {H : Hp} {d : Option Addr} (w : WayCls X.K X.mg c C) (hL : B.L = lt X B.L.W) (r : RelVs B ρ1 σ H fr fvs) (dd : Addr) (hd : d = some dd) (hH : H dd = some (.xd [(("at" : Str), .int n)])) :
    ∀ {hds : List ExceptHandler} {l : List (Value × Nat × (Int → DL.D))}, HdsD X hds l → ∀ (rk : Option Nat), catchOk X.K C (l.map (·.1)) rk →
      (match rk with
        | some k => (match (l.map (·.2))[k]? with
          | some (i, su) => i < ρ1.length ∧ ∀ v H, Out B.L.K B.L.w B.P0 [] B.H0 H (su n) v → D.rt v H
          | none => False)
        | none => Wout (.ref C) d σ H) → wAsM X.K Wout D (l.map fun p => (p.1, p.2.1, tSu X p.2.1 p.2.2)) (.ref C) d σ H := by
  intro hds l h
  induction h with
  | nil =>
    intro rk hk q
    cases rk with
    | none => exact q
    | some k => exact hk.elim
  | @cons x nn c' i su b₀ suite np pos' hds2 l2 hi hln hc hsu r2 ih =>
    intro rk hk q
    cases rk with
    | none => exact ⟨false, hk.1, (fun z => by cases z), fun _ => ih none hk.2 q⟩
    | some k =>
      cases k with
      | succ k => exact ⟨false, hk.1, (fun z => by cases z), fun _ => ih (some k) hk.2 (by simpa using q)⟩
      | zero =>
        refine ⟨true, hk, fun _ a ha => ?_, fun z => by cases z⟩
        have q' : i < ρ1.length ∧ ∀ v H, Out B.L.K B.L.w B.P0 [] B.H0 H (su n) v → D.rt v H := by simpa using q
        have hlt : i < σ.length := by rw [← r.envlen]; exact q'.1
        obtain ⟨P, as, bs, g, er, rr, nn, qq⟩ := r
        refine ⟨C, dd, n, rfl, w.xf, w.noN, hd, hH, List.getElem?_set_self hlt, P, g.fz B.fz0 (fun _ z => nomatch z), fun v H' o => ?_⟩
        refine q'.2 v H' (OutL.comb (a1 := []) g (fun _ z => nomatch z) (fun _ z => nomatch z) ?_)
        rw [hL]
        exact o
theorem ds_try {body : List Stmt} {h₀ : ExceptHandler} {hds : List ExceptHandler} {l : List (Value × Nat × (Int → DL.D))} {pos : Pos} {F : Sv} {tbl : List (Str × Option Nat)} (dx : Dx X B.L.W k) (hL : B.L = lt X B.L.W) (hlen : B.L.K = X.K) (hs : X.stack = X.env :: X.outer) (hf : X.env.frame = some X.env.locals)
    (hb : ∀ (W : WX) (pn : List (Addr × Obj)) (xe : Value → Shared → Prop), Takes (X.tr pn xe) W → PassesOwn (model X.prog X.w) X.A X.env xe → DSs (X.tr pn xe) ⟨lt X W, B.H0, B.P0, B.fz0⟩ body F)
    (hh : HdsD X (h₀ :: hds) l) (ht : ∀ c r, tbl.lookup c = some r → ∃ C, WayCls X.K X.mg c C ∧ catchOk X.K C (l.map (·.1)) r) :
    DS X B (.Try body (h₀ :: hds) [] [] pos) (sTry F tbl (l.map (·.2))) := by
  have ps := ps_try_asM (tb := fun W => tS ⟨lt X W, B.H0, B.P0, B.fz0⟩ F) (pos := pos) hs hf dx.nd dx.tk hb hh.as
  refine ⟨fun pins s σ H D I h => ps.run pins s σ H D I ?_⟩
  obtain ⟨ρ, fr, fvs, r, q⟩ := h
  have rk : ∀ {W : WX} {ρ : Env} {σ : St} {H : Hp} {fr : List DL.D} {fvs : List V}, RelVs B ρ σ H fr fvs → RelVs ⟨lt X W, B.H0, B.P0, B.fz0⟩ ρ σ H fr fvs := fun {W ρ σ H fr fvs} h => by
    obtain ⟨P, as, bs, g, er, rr, n, qq⟩ := h
    rw [hL] at er rr
    exact ⟨P, as, bs, g, er, rr, n, qq⟩
  have rk' : ∀ {W : WX} {ρ : Env} {σ : St} {H : Hp} {fr : List DL.D} {fvs : List V}, RelVs ⟨lt X W, B.H0, B.P0, B.fz0⟩ ρ σ H fr fvs → RelVs B ρ σ H fr fvs := fun {W ρ σ H fr fvs} h => by
    obtain ⟨P, as, bs, g, er, rr, n, qq⟩ := h
    refine ⟨P, as, bs, g, ?_, ?_, n, qq⟩
    · rw [hL]; exact er
    · rw [hL]; exact rr
  refine ⟨ρ, fr, fvs, rk r, ?_⟩
  unfold sTry at q
  cases hF : F ρ with
  | nx ρ' => rw [hF] at q; exact fun σ' H' r' => q σ' H' (rk' r')
  | brk ρ' => rw [hF] at q; exact fun σ' H' r' => q σ' H' (rk' r')
  | ct ρ' => rw [hF] at q; exact fun σ' H' r' => q σ' H' (rk' r')
  | ret d => rw [hF] at q; exact fun v H' o => q v H' (by rw [hL]; exact o)
  | stuck => rw [hF] at q; exact q
  | exc c n ρ1 =>
    simp only [hF] at q
    intro cls d σ' H' r' x'
    cases hc : tbl.lookup c with
    | none => simp only [hc] at q; exact q.elim
    | some rk0 =>
      simp only [hc] at q
      obtain ⟨C, w, hk⟩ := ht c rk0 hc
      obtain ⟨C', dd, x1, rfl, x3, x4⟩ := x'
      have x1' : X.mg c = some (.ref C') := x1
      rw [w.gC] at x1'
      cases x1'
      have r2 := rk' r'
      refine try_catch (B := B) (fr := fr) (fvs := fvs) w hL r2 dd x3 x4 hh rk0 hk ?_
      cases rk0 with
      | none => 
        simp only at q ⊢
        exact q _ _ σ' H' r2 ⟨C, dd, by rw [hL]; exact w.gC, rfl, x3, x4⟩
      | some k0 =>
        simp only at q ⊢
        cases hsu : (l.map (·.2))[k0]? with
        | none => simp only [hsu] at q; exact q.elim
        | some p =>
          obtain ⟨i, su⟩ := p
          simp only [hsu] at q ⊢
          by_cases hi : i < ρ1.length
          · simp only [hi, if_true] at q
            exact ⟨hi, q⟩
          · simp only [hi, if_false] at q; exact q.elim
end
end DL

set_option Elab.async false
set_option linter.all false
set_option maxRecDepth 100000
set_option maxHeartbeats 1000000
namespace DL
open PySem PySem.Spec L2
open PyProof.Rows hiding St

/-- from the value v along the keys to u -/
def PathV (H : Hp) : V → List D → V → Prop
  | v, [], u => v = u
  | v, k :: ks, u => ∃ a vs i x, v = .ref a ∧ k = .int i ∧ H a = some (.lst vs) ∧ atI vs i = some x ∧ PathV H x ks u
theorem PathV.inj {H : Hp} : ∀ {ks : List D} {v u u' : V}, PathV H v ks u → PathV H v ks u' → u = u'
  | [], _, _, _, a, b => a.symm.trans b
  | k :: ks, _, _, _, ⟨a, vs, i, x, e1, e2, e3, e4, e5⟩, ⟨a', vs', i', x', f1, f2, f3, f4, f5⟩ => by
    subst e1 e2
    cases f1
    cases f2
    rw [e3] at f3; cases f3
    rw [e4] at f4; cases f4
    exact PathV.inj e5 f5
theorem PathV.same {H H' : Hp} (e : Same H H') : ∀ {ks : List D} {v u : V}, PathV H v ks u → PathV H' v ks u
  | [], _, _, h => h
  | k :: ks, _, _, ⟨a, vs, i, x, e1, e2, e3, e4, e5⟩ => ⟨a, vs, i, x, e1, e2, e _ _ e3, e4, PathV.same e e5⟩
theorem PathV.snoc {H : Hp} : ∀ {ks : List D} {v x u : V} {a : Addr} {vs : List V} {i : Int}, PathV H v ks x → x = .ref a → H a = some (.lst vs) → atI vs i = some u → PathV H v (ks ++ [.int i]) u
  | [], _, _, _, a, vs, i, h, e1, e2, e3 => ⟨a, vs, i, _, h.trans e1, rfl, e2, e3, rfl⟩
  | k :: ks, _, _, _, a, vs, i, ⟨a', vs', i', x', f1, f2, f3, f4, f5⟩, e1, e2, e3 => ⟨a', vs', i', x', f1, f2, f3, f4, PathV.snoc f5 e1 e2 e3⟩
section
variable {K : PySem.W.Frag} {w : World} {P : Addr → Prop} {H : Hp}
theorem Reps.atSplit {ds : List D} {vs : List V} {as : List Addr} (h : Reps K w P H ds vs as) {j : Nat} {x : D} (e : ds[j]? = some x) :
    ∃ xs ys us zs v b1 bx b2, ds = xs ++ x :: ys ∧ vs = us ++ v :: zs ∧ xs.length = j ∧ us.length = j ∧ as = b1 ++ (bx ++ b2) ∧ Reps K w P H xs us b1 ∧ Rep K w P H x v bx ∧ Reps K w P H ys zs b2 := by
  induction j generalizing ds vs as with
  | zero =>
    cases h with
    | nil => simp at e
    | cons a b =>
      simp at e
      subst e
      exact ⟨[], _, [], _, _, [], _, _, rfl, rfl, rfl, rfl, rfl, .nil, a, b⟩
  | succ j ih =>
    cases h with
    | nil => simp at e
    | cons a b =>
      obtain ⟨xs, ys, us, zs, v, b1, bx, b2, e1, e2, e3, e4, e5, r1, r2, r3⟩ := ih b (by simpa using e)
      refine ⟨_ :: xs, ys, _ :: us, zs, v, _ ++ b1, bx, b2, by rw [e1]; rfl, by rw [e2]; rfl, by simp [e3], by simp [e4], by rw [e5, List.append_assoc], .cons a r1, r2, r3⟩
theorem atI_ix {α : Type} {xs : List α} {i : Int} {x : α} (h : atI xs i = some x) : ∃ j, ixN xs.length i = some j ∧ xs[j]? = some x := Option.bind_eq_some_iff.mp h
theorem perm_mid (a b c : List Addr) : (a ++ (b ++ c)).Perm (b ++ (a ++ c)) := by
  rw [← List.append_assoc, ← List.append_assoc]
  exact List.Perm.append_right c List.perm_append_comm
/-- the thing at a path: it, and what is put back -/
theorem Rep.focus : ∀ (ks : List D) {d : D} {v : V} {as : List Addr} {e : D}, Rep K w P H d v as → as.Nodup → pathL d ks = true → getP d ks = some e →
    ∃ u bs cs, PathV H v ks u ∧ Rep K w P H e u bs ∧ (bs ++ cs).Perm as ∧
      ∀ a o e' bs', a ∈ bs → Wr P H a → Rep K w P (L2.upd H a o) e' u bs' → ∃ d' as', putP d ks e' = some d' ∧ Rep K w P (L2.upd H a o) d' v as' ∧ as'.Perm (bs' ++ cs)
  | [], d, v, as, e, r, n, hk, h => by
    simp only [getP, Option.some.injEq] at h
    subst h
    exact ⟨v, as, [], rfl, r, by rw [List.append_nil], fun a o e' bs' _ _ r' => ⟨e', bs', rfl, r', by rw [List.append_nil]⟩⟩
  | k :: ks, d, v, as, e, r, n, hk, h => by
    simp only [getP] at h
    obtain ⟨x, hx, hg⟩ := Option.bind_eq_some_iff.mp h
    cases d with
    | lst own xs =>
      obtain ⟨i, rfl⟩ : ∃ i, k = .int i := by cases k <;> simp [pathL] at hk ⊢
      simp only [dGet] at hx
      have hk' : pathL x ks = true := by
        simp only [pathL, hx] at hk
        exact hk
      obtain ⟨j, hj, hxj⟩ := atI_ix hx
      cases own with
      | false =>
        cases r with
        | lstF hF rr =>
          rename_i a0 vs
          obtain ⟨xs1, ys, us, zs, vx, b1, bx, b2, e1, e2, e3, e4, e5, r1, r2, r3⟩ := rr.atSplit hxj
          have eb : bx = [] := by
            have := e5.symm
            simp at this
            exact this.2.1
          subst eb
          obtain ⟨u, bs, cs, pu, ru, pm, _⟩ := Rep.focus ks r2 .nil hk' hg
          have en : bs = [] ∧ cs = [] := List.append_eq_nil_iff.mp (List.perm_nil.mp pm)
          obtain ⟨rfl, rfl⟩ := en
          refine ⟨u, [], [], ⟨a0, vs, i, vx, rfl, rfl, hF.1, ?_, pu⟩, ru, .refl _, fun a o e' bs' ha => nomatch ha⟩
          unfold atI
          rw [← rr.length, hj, e2]
          show (us ++ vx :: zs)[j]? = some vx
          rw [List.getElem?_append_right (by omega), e4, Nat.sub_self]
          rfl
      | true =>
        cases r with
        | lstO hH rr =>
          rename_i a0 vs as1
          obtain ⟨xs1, ys, us, zs, vx, b1, bx, b2, e1, e2, e3, e4, e5, r1, r2, r3⟩ := rr.atSplit hxj
          obtain ⟨na, n1⟩ := List.nodup_cons.mp n
          rw [e5] at n1 na
          obtain ⟨nb1, nb2, nb3⟩ := List.nodup_append.mp n1
          obtain ⟨nbx, nb4, nb5⟩ := List.nodup_append.mp nb2
          obtain ⟨u, bs, cs, pu, ru, pm, put⟩ := Rep.focus ks r2 nbx hk' hg
          have hvx : atI vs i = some vx := by
            unfold atI
            rw [← rr.length, hj, e2]
            show (us ++ vx :: zs)[j]? = some vx
            rw [List.getElem?_append_right (by omega), e4, Nat.sub_self]
            rfl
          refine ⟨u, bs, a0 :: (b1 ++ (cs ++ b2)), ⟨a0, vs, i, vx, rfl, rfl, hH, hvx, pu⟩, ru, ?_, fun a o e' bs' ha wr r' => ?_⟩
          · rw [e5]
            have : (bs ++ a0 :: (b1 ++ (cs ++ b2))).Perm (a0 :: (bs ++ (b1 ++ (cs ++ b2)))) := List.perm_middle
            refine this.trans (List.Perm.cons a0 ?_)
            have p1 : (bs ++ (b1 ++ (cs ++ b2))).Perm (b1 ++ (bs ++ (cs ++ b2))) := perm_mid _ _ _
            refine p1.trans (List.Perm.append_left b1 ?_)
            rw [← List.append_assoc]
            exact List.Perm.append_right b2 pm
          · have hax : a ∈ bx := pm.mem_iff.mp (List.mem_append_left _ ha)
            obtain ⟨x', bx', hp, rx', pmx⟩ := put a o e' bs' ha wr r'
            have ne0 : a0 ≠ a := fun z => na (by rw [z]; exact List.mem_append_right _ (List.mem_append_left _ hax))
            have n1' : a ∉ b1 := fun z => nb3 a z a (List.mem_append_left _ hax) rfl
            have n2' : a ∉ b2 := fun z => nb5 a hax a z rfl
            refine ⟨.lst true (xs.set j x'), a0 :: (b1 ++ (bx' ++ b2)), ?_, ?_, ?_⟩
            · simp only [putP, dGet, hx, Option.bind_some, hp, dSet, hj, Option.map_some]
            · refine .lstO (vs := vs) (by rw [upd_ne ne0]; exact hH) ?_
              have es : xs.set j x' = xs1 ++ (x' :: ys) := by
                rw [e1, ← e3]
                simp
              rw [es, e2]
              exact (r1.upd wr n1').append (.cons rx' (r3.upd wr n2'))
            · have : (bs' ++ a0 :: (b1 ++ (cs ++ b2))).Perm (a0 :: (bs' ++ (b1 ++ (cs ++ b2)))) := List.perm_middle
              refine List.Perm.trans (List.Perm.cons a0 ?_) this.symm
              have p1 : (bs' ++ (b1 ++ (cs ++ b2))).Perm (b1 ++ (bs' ++ (cs ++ b2))) := perm_mid _ _ _
              refine List.Perm.trans (List.Perm.append_left b1 ?_) p1.symm
              rw [← List.append_assoc]
              exact List.Perm.append_right b2 pmx
    | _ => simp [pathL] at hk
end
def PathS (H : Hp) (σ : St) (i : Nat) (ks : List D) (u : V) : Prop := ∃ v, σ[i]? = some (some v) ∧ PathV H v ks u
/-- a thing in place is written -/
theorem RelVs.mut {B : Fx} {ρ : Env} {σ : St} {H : Hp} {ds fr : List D} {ys fvs : List V} {i : Nat} {ks : List D} {d0 e : D} (r : RelVs B ρ σ H (ds ++ fr) (ys ++ fvs)) (ln : ds.length = ys.length) (h0 : ρ[i]? = some (some d0)) (hk : pathL d0 ks = true) (hg : getP d0 ks = some e) :
    ∃ u P bs cy, PathS H σ i ks u ∧ Rep B.L.K B.L.w P H e u bs ∧ Reps B.L.K B.L.w P H ds ys cy ∧ (bs ++ cy).Nodup ∧ (∀ x ∈ bs ++ cy, ¬ P x) ∧ Fz P H ∧
      ∀ a o e' bs' ds' ys' cy', a ∈ bs → Ob H a → Rep B.L.K B.L.w P (L2.upd H a o) e' u bs' → Reps B.L.K B.L.w P (L2.upd H a o) ds' ys' cy' → (bs' ++ cy').Nodup → (∀ x ∈ bs' ++ cy', x ∈ bs ++ cy) →
        ∃ d1, putP d0 ks e' = some d1 ∧ RelVs B (ρ.set i (some d1)) σ (L2.upd H a o) (ds' ++ fr) (ys' ++ fvs) := by
  obtain ⟨P, as, bf, g, er, rr, n, q⟩ := r
  obtain ⟨cy, c2, rfl, ry, rf⟩ := rr.split ln
  obtain ⟨nf, na, nfa⟩ := List.nodup_append.mp n
  obtain ⟨ncy, nc2, ncc⟩ := List.nodup_append.mp nf
  obtain ⟨v, b0, c0, hv, r0, er0, n0, m0⟩ := er.take na i d0 h0
  obtain ⟨nb0, nc0, nbc⟩ := List.nodup_append.mp n0
  obtain ⟨u, bs, cs, pu, ru, pm, put⟩ := r0.focus ks nb0 hk hg
  have inb : ∀ x ∈ bs, x ∈ b0 := fun x hx => pm.mem_iff.mp (List.mem_append_left _ hx)
  have inc : ∀ x ∈ cs, x ∈ b0 := fun x hx => pm.mem_iff.mp (List.mem_append_right _ hx)
  have nbcs : (bs ++ cs).Nodup := pm.nodup_iff.mpr nb0
  obtain ⟨nbs, ncs, nbscs⟩ := List.nodup_append.mp nbcs
  have a_of : ∀ x ∈ b0, x ∈ as := fun x hx => (m0 x).mp (List.mem_append_left _ hx)
  have a_ofc : ∀ x ∈ c0, x ∈ as := fun x hx => (m0 x).mp (List.mem_append_right _ hx)
  have bsy : (bs ++ cy).Nodup := List.nodup_append.mpr ⟨nbs, ncy, fun x hx y hy e => nfa y (List.mem_append_left _ hy) x (a_of x (inb x hx)) e.symm⟩
  have fzP : Fz P H := g.fz B.fz0 (fun _ z => nomatch z)
  refine ⟨u, P, bs, cy, ⟨v, hv, pu⟩, ru, ry, bsy, fun x hx => ?_, fzP, fun a o e' bs' ds' ys' cy' ha hob re rd' nn sub => ?_⟩
  · rcases List.mem_append.mp hx with hx | hx
    · exact (q x (List.mem_append_right _ (a_of x (inb x hx)))).2
    · exact (q x (List.mem_append_left _ (List.mem_append_left _ hx))).2
  · have haa : a ∈ as := a_of a (inb a ha)
    have wr : Wr P H a := ⟨hob, (q a (List.mem_append_right _ haa)).2⟩
    obtain ⟨d1, as1, hp, r1, pm1⟩ := put a o e' bs' ha wr re
    have h0a : B.H0 a = none := (q a (List.mem_append_right _ haa)).1
    have nac2 : a ∉ c2 := fun z => nfa a (List.mem_append_right _ z) a haa rfl
    have nac0 : a ∉ c0 := fun z => nbc a (inb a ha) a z rfl
    have er1 := er0.upd (o := o) wr nac0
    have hi : i < ρ.length := (List.getElem?_eq_some_iff.mp h0).1
    -- where the new ones come from
    have src : ∀ x ∈ bs' ++ cy', x ∈ bs ∨ x ∈ cy := fun x hx => List.mem_append.mp (sub x hx)
    have n1 : (as1 ++ c0).Nodup := by
      have m1 : ∀ x ∈ as1, x ∈ bs' ++ cs := fun x hx => pm1.mem_iff.mp hx
      refine List.nodup_append.mpr ⟨pm1.nodup_iff.mpr (List.nodup_append.mpr ⟨(List.nodup_append.mp nn).1, ncs, fun x hx y hy e => ?_⟩), nc0, fun x hx y hy e => ?_⟩
      · subst e
        rcases src x (List.mem_append_left _ hx) with z | z
        · exact nbscs x z x hy rfl
        · exact nfa x (List.mem_append_left _ z) x (a_of x (inc x hy)) rfl
      · subst e
        rcases List.mem_append.mp (m1 x hx) with z | z
        · rcases src x (List.mem_append_left _ z) with z | z
          · exact nbc x (inb x z) x hy rfl
          · exact nfa x (List.mem_append_left _ z) x (a_ofc x hy) rfl
        · exact nbc x (inc x z) x hy rfl
    obtain ⟨ca, er2, nca, mca⟩ := er1.put i d1 v as1 (by rw [List.getElem?_set_self hi]) r1 n1
    rw [List.set_set] at er2
    have hσ : σ.set i (some v) = σ := by
      apply List.ext_getElem?
      intro j
      by_cases hj : i = j
      · subst hj
        rw [List.getElem?_set_self (List.getElem?_eq_some_iff.mp hv).1, hv]
      · rw [List.getElem?_set_ne hj]
    rw [hσ] at er2
    have src2 : ∀ x ∈ ca, x ∈ bs ∨ x ∈ cy ∨ x ∈ cs ∨ x ∈ c0 := fun x hx => by
      rcases List.mem_append.mp (mca x hx) with z | z
      · rcases List.mem_append.mp (pm1.mem_iff.mp z) with z | z
        · exact (src x (List.mem_append_left _ z)).elim .inl fun z => .inr (.inl z)
        · exact .inr (.inr (.inl z))
      · exact .inr (.inr (.inr z))
    have good : ∀ x, (x ∈ bs ∨ x ∈ cy ∨ x ∈ cs ∨ x ∈ c0) → B.H0 x = none ∧ ¬ P x := fun x hx => by
      rcases hx with z | z | z | z
      · exact q x (List.mem_append_right _ (a_of x (inb x z)))
      · exact q x (List.mem_append_left _ (List.mem_append_left _ z))
      · exact q x (List.mem_append_right _ (a_of x (inc x z)))
      · exact q x (List.mem_append_right _ (a_ofc x z))
    refine ⟨d1, hp, P, ca, cy' ++ c2, ⟨fun b ob hb => ?_, g.le, fun b hb => ?_⟩, er2, rd'.append (rf.upd wr nac2), ?_, fun x hx => ?_⟩
    · rw [upd_ne (ne_of_none hb h0a)]; exact g.same _ _ hb
    · rcases g.new b hb with z | z | ⟨z, ob, hz⟩
      · exact .inl z
      · cases z
      · refine .inr (.inr ⟨z, ?_⟩)
        by_cases hba : b = a
        · subst hba; exact ⟨_, upd_same⟩
        · exact ⟨ob, by rw [upd_ne hba]; exact hz⟩
    · have ncyc : (cy' ++ c2).Nodup := List.nodup_append.mpr ⟨(List.nodup_append.mp nn).2.1, nc2, fun x hx y hy e => by
        subst e
        rcases src x (List.mem_append_right _ hx) with z | z
        · exact nfa x (List.mem_append_right _ hy) x (a_of x (inb x z)) rfl
        · exact ncc x z x hy rfl⟩
      refine List.nodup_append.mpr ⟨ncyc, nca, fun x hx y hy e => ?_⟩
      subst e
      rcases List.mem_append.mp hx with z | z
      · -- x is new in the frame, and in the environment
        rcases List.mem_append.mp (mca x hy) with y | y
        · rcases List.mem_append.mp (pm1.mem_iff.mp y) with y | y
          · exact (List.nodup_append.mp nn).2.2 x y x z rfl
          · rcases src x (List.mem_append_right _ z) with t | t
            · exact nbscs x t x y rfl
            · exact nfa x (List.mem_append_left _ t) x (a_of x (inc x y)) rfl
        · rcases src x (List.mem_append_right _ z) with t | t
          · exact nbc x (inb x t) x y rfl
          · exact nfa x (List.mem_append_left _ t) x (a_ofc x y) rfl
      · rcases src2 x hy with t | t | t | t
        · exact nfa x (List.mem_append_right _ z) x (a_of x (inb x t)) rfl
        · exact ncc x t x z rfl
        · exact nfa x (List.mem_append_right _ z) x (a_of x (inc x t)) rfl
        · exact nfa x (List.mem_append_right _ z) x (a_ofc x t) rfl
    · rcases List.mem_append.mp hx with hx | hx
      · rcases List.mem_append.mp hx with z | z
        · exact good x ((src x (List.mem_append_right _ z)).elim .inl fun z => .inr (.inl z))
        · exact q x (List.mem_append_left _ (List.mem_append_right _ z))
      · exact good x (src2 x hx)
end DL

set_option Elab.async false
set_option linter.all false
set_option maxRecDepth 100000
set_option maxHeartbeats 1000000
namespace DL
open PySem PySem.Spec L2
open PyProof.Rows hiding St

theorem keysOf_snoc : ∀ {es : List Ev} {f : Ev} {ρ : Env} {ks : List D}, keysOf (es ++ [f]) ρ = some ks → ∃ ks0 k, ks = ks0 ++ [k] ∧ keysOf es ρ = some ks0 ∧ f ρ = .val k ∧ k.clean = true
  | [], f, ρ, ks, h => by
    simp only [List.nil_append, keysOf] at h
    cases hf : f ρ with
    | val k =>
      rw [hf] at h
      simp only at h
      split at h
      · rename_i hc
        cases h
        exact ⟨[], k, rfl, rfl, rfl, hc⟩
      · cases h
    | exc c n => rw [hf] at h; cases h
    | stuck => rw [hf] at h; cases h
  | e :: es, f, ρ, ks, h => by
    simp only [List.cons_append, keysOf] at h
    cases he : e ρ with
    | val k0 =>
      cases hl : keysOf (es ++ [f]) ρ with
      | none => rw [he, hl] at h; cases h
      | some ks1 =>
        rw [he, hl] at h
        simp only at h
        split at h
        · rename_i hc
          cases h
          obtain ⟨ks0, k, rfl, a, b, c⟩ := keysOf_snoc hl
          exact ⟨k0 :: ks0, k, rfl, by simp only [keysOf, he, a, hc, if_true], b, c⟩
        · cases h
    | exc c n => rw [he] at h; cases h
    | stuck => rw [he] at h; cases h
theorem pathL_snoc : ∀ {ks : List D} {d k : D}, pathL d (ks ++ [k]) = true → pathL d ks = true ∧ ∀ e, getP d ks = some e → (∃ own xs i, e = .lst own xs ∧ k = .int i)
  | [], d, k, h => by
    refine ⟨by simp [pathL], fun e he => ?_⟩
    simp only [getP, Option.some.injEq] at he
    subst he
    cases d <;> simp [pathL] at h
    rename_i own xs
    cases k <;> simp [pathL] at h
    exact ⟨own, xs, _, rfl, rfl⟩
  | k0 :: ks, d, k, h => by
    cases d <;> simp only [List.cons_append, pathL] at h <;> try cases h
    rename_i own xs
    cases k0 <;> simp only [pathL] at h <;> try cases h
    rename_i i
    cases hx : atI xs i with
    | none => rw [hx] at h; cases h
    | some x =>
      rw [hx] at h
      obtain ⟨a, b⟩ := pathL_snoc h
      refine ⟨by simp only [pathL, hx]; exact a, fun e he => b e ?_⟩
      simp only [getP, dGet, hx, Option.bind_some] at he
      exact he
theorem getP_snoc : ∀ {ks : List D} {d k e : D}, getP d (ks ++ [k]) = some e → ∃ e1, getP d ks = some e1 ∧ dGet e1 k = some e
  | [], d, k, e, h => by
    simp only [List.nil_append, getP] at h
    obtain ⟨x, a, b⟩ := Option.bind_eq_some_iff.mp h
    simp only [Option.some.injEq] at b
    subst b
    exact ⟨d, rfl, a⟩
  | k0 :: ks, d, k, e, h => by
    simp only [List.cons_append, getP] at h
    obtain ⟨x, a, b⟩ := Option.bind_eq_some_iff.mp h
    obtain ⟨e1, c, f⟩ := getP_snoc b
    exact ⟨e1, by simp only [getP, a, Option.bind_some]; exact c, f⟩
theorem setP_snoc {ks : List D} {d k v : D} : setP d (ks ++ [k]) v = if pathL d ks = true then (getP d ks).bind fun e => (dSet e k v).bind fun e' => putP d ks e' else none := by
  unfold setP
  have : (ks ++ [k]).reverse = k :: ks.reverse := by simp
  rw [this]
  simp only [List.reverse_reverse]

section
variable {X : Cx} {B : Fx} {o idx : Expr} {pos : Pos} {i : Nat} {es : List Ev} {rd : List Nat} {f : Ev}
/-- a place -/
def tP (B : Fx) (i : Nat) (es : List Ev) : TE := fun σ H Q => ∃ ρ fr fvs ks d0 e, RelVs B ρ σ H fr fvs ∧ keysOf es ρ = some ks ∧ ρ[i]? = some (some d0) ∧ pathL d0 ks = true ∧ getP d0 ks = some e ∧ ∀ v H', PathS H' σ i ks v → RelVs B ρ σ H' fr fvs → Q v H'
theorem tp_v (h : PE X o (tVar i)) : PE X o (tP B i []) := PEi h fun σ H Q ⟨ρ, fr, fvs, ks, d0, e, r, hks, h0, hl, hg, q⟩ => by
  simp only [keysOf, Option.some.injEq] at hks
  subst hks
  obtain ⟨P, as, bs, g, er, rr, n, qq⟩ := id r
  obtain ⟨v, _, hv, _⟩ := er.get i d0 h0
  exact ⟨v, hv, q v H ⟨v, hv, rfl⟩ r⟩
theorem RelVs.at {ρ : Env} {σ : St} {H : Hp} {fr : List D} {fvs : List V} {ks : List D} {d0 e : D} (r : RelVs B ρ σ H fr fvs) (h0 : ρ[i]? = some (some d0)) (hk : pathL d0 ks = true) (hg : getP d0 ks = some e) {u : V} (pu : PathS H σ i ks u) :
    ∃ P bs, Fz P H ∧ Rep B.L.K B.L.w P H e u bs ∧ bs.Nodup ∧ ∀ x ∈ bs, ¬ P x := by
  obtain ⟨u', P, bs, cy, ps, re, _, nn, np, fz, _⟩ := RelVs.mut (ds := []) (ys := []) r rfl h0 hk hg
  obtain ⟨v1, a1, b1⟩ := pu
  obtain ⟨v2, a2, b2⟩ := ps
  rw [a1] at a2
  cases a2
  have := b1.inj b2
  subst this
  exact ⟨P, bs, fz, re, (List.nodup_append.mp nn).1, fun x hx => np x (List.mem_append_left _ hx)⟩
theorem tp_ix (ho : PE X o (tP B i es)) (hi : PE X idx (tE B.L rd f)) (hs : PlainIx idx) (hK : B.L.K = X.K) : PE X (.Subscript o idx pos) (tP B i (es ++ [f])) := PEi (pe_ix ix_seq ho hi hs) fun σ H Q ⟨ρ, fr, fvs, ks, d0, e, r, hks, h0, hl, hg, q⟩ => by
  obtain ⟨ks0, k, rfl, hk0, hf, hc⟩ := keysOf_snoc hks
  obtain ⟨e1, hg1, hd⟩ := getP_snoc hg
  obtain ⟨hl1, hl2⟩ := pathL_snoc hl
  obtain ⟨own, xs, n, rfl, rfl⟩ := hl2 e1 hg1
  refine ⟨ρ, fr, fvs, ks0, d0, _, r, hk0, h0, hl1, hg1, fun x H1 px r1 => ?_⟩
  obtain ⟨P1, vw, k1⟩ := r1.view rd
  refine ⟨ρ, P1, vw, ?_⟩
  rw [hf]
  intro y H2 o2
  have e2 := o2.same
  obtain ⟨_, _, _, ry, _⟩ := id o2
  cases ry
  have r2 := r1.same e2
  have px2 : PathS H2 σ i ks0 x := by obtain ⟨v, a, b⟩ := px; exact ⟨v, a, b.same e2⟩
  obtain ⟨P, bs, _, re, _⟩ := r2.at h0 hl1 hg1 px2
  obtain ⟨a, vs, b1, rfl, ha, ra, s⟩ := re.lst_h
  simp only [dGet] at hd
  obtain ⟨v2, b2, hv2, _, _⟩ := atI_reps ra hd
  refine .inl ⟨a, vs, n, v2, rfl, rfl, .of ha, hv2, q v2 H2 ?_ r2⟩
  obtain ⟨v, h1, h2⟩ := px2
  exact ⟨v, h1, h2.snoc rfl ha hv2⟩

def tMs (B : Fx) (m : Mv) : TE := fun σ H Q => ∃ ρ fr fvs, RelVs B ρ σ H fr fvs ∧ match m ρ with
  | .val d ρ' => ∀ v H', Same H H' → RelVs B ρ' σ H' (d :: fr) (v :: fvs) → Q v H'
  | .exc c n ρ' => FlyR B c n ρ' σ fr fvs
  | .stuck => False
def tMLs (B : Fx) (m : MLv) : TA := fun σ H Q => ∃ ρ fr fvs, RelVs B ρ σ H fr fvs ∧ match m ρ with
  | .vals ds ρ' => ∀ vs H', Same H H' → RelVs B ρ' σ H' (ds ++ fr) (vs ++ fvs) → Q vs H'
  | .exc c n ρ' => FlyR B c n ρ' σ fr fvs
  | .stuck => False
theorem dms_e {e : Expr} (h : PE X e (tE B.L rd f)) : PE X e (tMs B (mE rd f)) := PEi h fun σ H Q ⟨ρ, fr, fvs, r, q⟩ => by
  obtain ⟨Q', vw, k⟩ := r.view rd
  refine ⟨ρ, Q', vw, ?_⟩
  unfold mE at q
  cases hf : f ρ with
  | val d =>
    rw [hf] at q
    exact fun v H' o => q v H' o.same (k d v H' o)
  | exc c n => rw [hf] at q; exact q.fly r
  | stuck => rw [hf] at q; exact q
theorem RelVs.move {ρ : Env} {σ : St} {H : Hp} {fr : List D} {fvs : List V} {i : Nat} {d : D} (r : RelVs B ρ σ H fr fvs) (h : ρ[i]? = some (some d)) : ∃ v, σ[i]? = some (some v) ∧ RelVs B (ρ.set i none) σ H (d :: fr) (v :: fvs) := by
  obtain ⟨P, as, bs, g, er, rr, n, qq⟩ := r
  obtain ⟨nb, na, nab⟩ := List.nodup_append.mp n
  obtain ⟨v, b1, cs, hv, rv, er', n', me⟩ := er.take na i d h
  obtain ⟨n1, n2, n3⟩ := List.nodup_append.mp n'
  refine ⟨v, hv, P, cs, b1 ++ bs, g, er', .cons rv rr, ?_, fun a z => ?_⟩
  · rw [List.append_assoc]
    refine List.nodup_append.mpr ⟨n1, List.nodup_append.mpr ⟨nb, n2, fun a z b y e => nab a z b ((me b).mp (List.mem_append_right _ y)) e⟩, fun a z b y e => ?_⟩
    rcases List.mem_append.mp y with y | y
    · exact nab b y a ((me a).mp (List.mem_append_left _ z)) e.symm
    · exact n3 a z b y e
  · rw [List.append_assoc] at z
    rcases List.mem_append.mp z with z | z
    · exact qq a (List.mem_append_right _ ((me a).mp (List.mem_append_left _ z)))
    · rcases List.mem_append.mp z with z | z
      · exact qq a (List.mem_append_left _ z)
      · exact qq a (List.mem_append_right _ ((me a).mp (List.mem_append_right _ z)))
theorem dms_v {e : Expr} {i : Nat} (h : PE X e (tVar i)) : PE X e (tMs B (mV i)) := PEi h fun σ H Q ⟨ρ, fr, fvs, r, q⟩ => by
  unfold mV at q
  cases h : ρ[i]? with
  | none => rw [h] at q; exact q.elim
  | some x =>
    cases x with
    | none => rw [h] at q; exact q.elim
    | some d =>
      rw [h] at q
      obtain ⟨v, hv, r'⟩ := r.move h
      exact ⟨v, hv, q v H (.refl _) r'⟩
theorem dmls_nil : PA X [] (tMLs B mN) := PAi pa_nil fun σ H Q ⟨ρ, fr, fvs, r, q⟩ => q [] H (.refl _) r
theorem dmls_cons {e : Expr} {es : List Expr} {m : Mv} {l : MLv} (ha : PE X e (tMs B m)) (hr : PA X es (tMLs B l)) (hs : starEach (e :: es) X.env = (false, eval e X.env) :: starEach es X.env := by rfl) : PA X (e :: es) (tMLs B (mC m l)) :=
  PAi (pa_cons ha hr hs) fun σ H Q ⟨ρ, fr, fvs, r, q⟩ => by
    refine ⟨ρ, fr, fvs, r, ?_⟩
    unfold mC at q
    cases hm : m ρ with
    | val d ρ1 =>
      rw [hm] at q
      intro v H1 e1 r1
      refine ⟨ρ1, d :: fr, v :: fvs, r1, ?_⟩
      cases hl : l ρ1 with
      | vals ds ρ2 =>
        simp only [hl] at q
        intro vs H2 e2 r2
        have ln : ds.length = vs.length := by
          have a := r2.lens
          have b := r1.lens
          simp only [List.length_append, List.length_cons] at a b
          omega
        exact q (v :: vs) H2 (e1.trans e2) (RelVs.perm (xs := ds) (ys := [d]) (us := vs) (vs := [v]) ln rfl r2)
      | exc c n ρ' => simp only [hl] at q; exact fun cls d H' r' x => q cls d H' r'.tail x
      | stuck => simp only [hl] at q
    | exc c n ρ' => rw [hm] at q; exact q
    | stuck => rw [hm] at q; exact q

def MetD (X : Cx) (r : V → List V → Hp → VK → Prop) (g : D → List D → Option (D × D)) : Prop := ∀ P H e u bs ds ys cy e' res Q, Fz P H → Rep X.K X.w P H e u bs → Reps X.K X.w P H ds ys cy → (bs ++ cy).Nodup → (∀ x ∈ bs ++ cy, ¬ P x) → g e ds = some (e', res) →
  (∀ a o v bs' cy', a ∈ bs → Ob H a → Rep X.K X.w P (L2.upd H a o) e' u bs' → Rep X.K X.w P (L2.upd H a o) res v cy' → (bs' ++ cy').Nodup → (∀ x ∈ bs' ++ cy', x ∈ bs ++ cy) → Q v (L2.upd H a o)) → r u ys H Q
def mMeth (i : Nat) (es : List Ev) (l : MLv) (g : D → List D → Option (D × D)) : Mv := fun ρ => match keysOf es ρ, ρ[i]? with
  | some ks, some (some d0) => (match getP d0 ks with
    | some (.lst _ _) => if pathL d0 ks = true then (match l ρ with
      | .vals ds ρ1 => (match ρ1[i]? with
        | some (some d1) => if pathL d1 ks = true then (match getP d1 ks with
          | some e => (match g e ds with
            | some (e', res) => (match putP d1 ks e' with
              | some d2 => .val res (ρ1.set i (some d2))
              | none => .stuck)
            | none => .stuck)
          | none => .stuck) else .stuck
        | _ => .stuck)
      | .exc c n ρ' => .exc c n ρ'
      | .stuck => .stuck) else .stuck
    | _ => .stuck)
  | _, _ => .stuck
theorem meth_of {ρ : Env} {σ : St} {H : Hp} {fr : List D} {fvs : List V} {r : V → List V → Hp → VK → Prop} {g : D → List D → Option (D × D)} {ks : List D} {d1 e e' res d2 : D} {ds : List D} {ys : List V} {x : V} {Q : VK} (md : MetD X r g) (hL : B.L.K = X.K) (hW : B.L.w = X.w)
    (rv : RelVs B ρ σ H (ds ++ fr) (ys ++ fvs)) (ln : ds.length = ys.length) (px : PathS H σ i ks x) (h1 : ρ[i]? = some (some d1)) (hk : pathL d1 ks = true) (hg : getP d1 ks = some e) (hm : g e ds = some (e', res)) (hp : putP d1 ks e' = some d2)
    (q : ∀ v H', RelVs B (ρ.set i (some d2)) σ H' (res :: fr) (v :: fvs) → Q v H') : r x ys H Q := by
  obtain ⟨u, P, bs, cy, ps, re, ry, nn, np, fz, upd⟩ := RelVs.mut rv ln h1 hk hg
  obtain ⟨v1, a1, b1⟩ := px
  obtain ⟨v2, a2, b2⟩ := ps
  rw [a1] at a2
  cases a2
  have := b1.inj b2
  subst this
  rw [hL, hW] at re ry
  refine md P H e x bs ds ys cy e' res Q fz re ry nn np hm fun a o v bs' cy' ha hob re' rr' nn' sub => ?_
  have rr2 : Reps B.L.K B.L.w P (L2.upd H a o) [res] [v] cy' := by
    have := Reps.cons rr' .nil
    rw [List.append_nil] at this
    rw [hL, hW]
    exact this
  rw [← hL, ← hW] at re'
  obtain ⟨d3, hp3, r3⟩ := upd a o e' bs' [res] [v] cy' ha hob re' rr2 nn' sub
  rw [hp] at hp3
  cases hp3
  exact q v _ r3
theorem dm_meth {a : Expr} {args : List Expr} {name : Str} {apos cpos : Pos} {id : String} {r : V → List V → Hp → VK → Prop} {g : D → List D → Option (D × D)} {l : MLv} (slot : Slot "list" name id) (hty : typeOf (.builtin id) = pure (.type "method_descriptor")) (hm : MtR X id r) (md : MetD X r g) (hL : B.L.K = X.K) (hW : B.L.w = X.w)
    (ho : PE X o (tP B i es)) (ha : PA X (a :: args) (tMLs B l)) (hbase : attributeBase o name X.env (eval o X.env) = eval o X.env := by rfl)
    (hfew : ((backTo cpos (starEach (a :: args) X.env)).all (fun x => !x.1) && (backToKw cpos (keywordEach [] X.env)).all (fun x => x.1.isSome)
      && decide ((a :: args).length + ([] : List Keyword).length + (if ([] : List Keyword).isEmpty then 0 else 1) < 30)) = true := by rfl)
    (hline : (apos.endLine == cpos.line) = true := by rfl) (hs : starEach (a :: args) X.env = (false, eval a X.env) :: starEach args X.env := by rfl) (hplain : (backTo cpos (starEach args X.env)).any (·.1) = false := by rfl) :
    DM X B (.Call (.Attribute o name apos) (a :: args) [] cpos) (mMeth i es l g) := PEi (pe_bm F.plainAttrs_list slot hty hm ho ha hbase hfew hline hs hplain) fun σ H Q ⟨ρ, fr, fvs, r0, q⟩ => by
  unfold mMeth at q
  cases hks : keysOf es ρ with
  | none => rw [hks] at q; exact q.elim
  | some ks =>
  cases h0 : ρ[i]? with
  | none => rw [hks, h0] at q; exact q.elim
  | some x0 =>
  cases x0 with
  | none => rw [hks, h0] at q; exact q.elim
  | some d0 =>
  simp only [hks, h0] at q
  cases hg0 : getP d0 ks with
  | none => simp only [hg0] at q
  | some e0 =>
  rw [hg0] at q
  cases e0 with
  | lst own xs =>
    simp only at q
    by_cases hp0 : pathL d0 ks = true
    · simp only [hp0, if_true] at q
      refine ⟨ρ, fr, fvs, ks, d0, _, r0, hks, h0, hp0, hg0, fun x H1 px r1 => ⟨?_, ?_⟩⟩
      · obtain ⟨P, bs, _, re, _⟩ := r1.at h0 hp0 hg0 px
        obtain ⟨a, vs, b1, rfl, ha, ra, s⟩ := re.lst_h
        exact .inl ⟨rfl, vs, .of ha⟩
      · refine ⟨ρ, fr, fvs, r1, ?_⟩
        cases hl : l ρ with
        | exc c n ρ' => simp only [hl] at q; exact q
        | stuck => simp only [hl] at q
        | vals ds ρ1 =>
        simp only [hl] at q
        intro ys H2 e2 r2
        have ln : ds.length = ys.length := by
          have a := r2.lens
          have b := r1.lens
          simp only [List.length_append] at a
          omega
        cases h1 : ρ1[i]? with
        | none => simp only [h1] at q
        | some x1 =>
        cases x1 with
        | none => simp only [h1] at q
        | some d1 =>
        simp only [h1] at q
        by_cases hp1 : pathL d1 ks = true
        · simp only [hp1, if_true] at q
          cases hg1 : getP d1 ks with
          | none => simp only [hg1] at q
          | some e =>
          simp only [hg1] at q
          cases hm1 : g e ds with
          | none => simp only [hm1] at q
          | some p =>
          obtain ⟨e', res⟩ := p
          simp only [hm1] at q
          cases hpp : putP d1 ks e' with
          | none => simp only [hpp] at q
          | some d2 =>
          simp only [hpp] at q
          have px2 : PathS H2 σ i ks x := by obtain ⟨v, a, b⟩ := px; exact ⟨v, a, b.same e2⟩
          exact meth_of md hL hW r2 ln px2 h1 hp1 hg1 hm1 hpp fun v H' r' => q v H' r'
        · simp only [hp1, if_false] at q; exact q.elim
    · simp only [hp0, if_false] at q; exact q.elim
  | _ => exact q.elim
theorem dm_meth0 {name : Str} {apos cpos : Pos} {id : String} {r : V → List V → Hp → VK → Prop} {g : D → List D → Option (D × D)} (slot : Slot "list" name id) (hty : typeOf (.builtin id) = pure (.type "method_descriptor")) (hm : MtR X id r) (md : MetD X r g) (hL : B.L.K = X.K) (hW : B.L.w = X.w)
    (ho : PE X o (tP B i es)) (hbase : attributeBase o name X.env (eval o X.env) = eval o X.env := by rfl) (hline : (apos.endLine == cpos.line) = true := by rfl) :
    DM X B (.Call (.Attribute o name apos) [] [] cpos) (mMeth i es mN g) := PEi (pe_bm0 F.plainAttrs_list slot hty hm ho hbase hline) fun σ H Q ⟨ρ, fr, fvs, r0, q⟩ => by
  unfold mMeth mN at q
  cases hks : keysOf es ρ with
  | none => rw [hks] at q; exact q.elim
  | some ks =>
  cases h0 : ρ[i]? with
  | none => rw [hks, h0] at q; exact q.elim
  | some x0 =>
  cases x0 with
  | none => rw [hks, h0] at q; exact q.elim
  | some d0 =>
  simp only [hks, h0] at q
  cases hg0 : getP d0 ks with
  | none => simp only [hg0] at q
  | some e0 =>
  rw [hg0] at q
  cases e0 with
  | lst own xs =>
    simp only at q
    by_cases hp0 : pathL d0 ks = true
    · simp only [hp0, if_true] at q
      refine ⟨ρ, fr, fvs, ks, d0, _, r0, hks, h0, hp0, hg0, fun x H1 px r1 => ⟨?_, ?_⟩⟩
      · obtain ⟨P, bs, _, re, _⟩ := r1.at h0 hp0 hg0 px
        obtain ⟨a, vs, b1, rfl, ha, ra, s⟩ := re.lst_h
        exact .inl ⟨rfl, vs, .of ha⟩
      · cases hm1 : g (.lst own xs) [] with
        | none => simp only [hm1] at q
        | some p =>
        obtain ⟨e', res⟩ := p
        simp only [hm1] at q
        cases hpp : putP d0 ks e' with
        | none => simp only [hpp] at q
        | some d2 =>
        simp only [hpp] at q
        exact meth_of (ds := []) (ys := []) md hL hW r1 rfl px h0 hp0 hg0 hm1 hpp fun v H' r' => q v H' r'
    · simp only [hp0, if_false] at q; exact q.elim
  | _ => exact q.elim

def gAppend : D → List D → Option (D × D)
  | .lst true xs, [d] => if xs.length < sizeLine then some (.lst true (xs ++ [d]), .non) else none
  | _, _ => none
theorem md_append : MetD X rAppend gAppend := fun P H e u bs ds ys cy e' res Q fz re ry nn np hg k => by
  unfold gAppend at hg
  split at hg
  · rename_i xs d
    split at hg
    · rename_i hz
      cases hg
      obtain ⟨y, rfl, r1⟩ := ry.sing
      cases re with
      | lstO hH rr =>
        rename_i a vs as
        obtain ⟨nbs, ncy, nbc⟩ := List.nodup_append.mp nn
        obtain ⟨na, nas⟩ := List.nodup_cons.mp nbs
        have wr : Wr P H a := ⟨.inl ⟨_, hH⟩, np a (by simp)⟩
        have nac : a ∉ cy := fun z => nbc a List.mem_cons_self a z rfl
        refine ⟨a, vs, y, rfl, rfl, hH, by rw [← rr.length]; exact hz, k a _ .non (a :: (as ++ cy)) [] List.mem_cons_self (.inl ⟨_, hH⟩) (.lstO upd_same ((rr.upd wr na).append (by have := Reps.cons (r1.upd (o := .lst (vs ++ [y])) wr nac) .nil; rw [List.append_nil] at this; exact this))) .non ?_ (fun x hx => by simpa using hx)⟩
        rw [List.append_nil]
        exact nn
    · cases hg
  · cases hg
/-- x.pop() -/
def gPop : D → List D → Option (D × D)
  | .lst true xs, [] => match xs[xs.length - 1]? with
    | some d => some (.lst true xs.dropLast, d)
    | none => none
  | _, _ => none
theorem Reps.eraseAt {K : PySem.W.Frag} {w : World} {P : Addr → Prop} {H : Hp} {ds : List D} {vs : List V} {as : List Addr} (h : Reps K w P H ds vs as) (n : as.Nodup) {j : Nat} {d : D} (e : ds[j]? = some d) :
    ∃ v a1 a2, vs[j]? = some v ∧ Rep K w P H d v a1 ∧ Reps K w P H (ds.eraseIdx j) (vs.eraseIdx j) a2 ∧ (a2 ++ a1).Nodup ∧ ∀ x ∈ a2 ++ a1, x ∈ as := by
  obtain ⟨xs, ys, us, zs, v, b1, bx, b2, e1, e2, e3, e4, e5, r1, r2, r3⟩ := h.atSplit e
  subst e5
  refine ⟨v, bx, b1 ++ b2, ?_, r2, ?_, ?_, fun x hx => ?_⟩
  · rw [e2, List.getElem?_append_right (by omega), e4, Nat.sub_self]; rfl
  · have h1 : ds.eraseIdx j = xs ++ ys := by rw [e1, ← e3, List.eraseIdx_append_of_length_le (Nat.le_refl _), Nat.sub_self]; rfl
    have h2 : vs.eraseIdx j = us ++ zs := by rw [e2, ← e4, List.eraseIdx_append_of_length_le (Nat.le_refl _), Nat.sub_self]; rfl
    rw [h1, h2]
    exact r1.append r3
  · have p : ((b1 ++ b2) ++ bx).Perm (b1 ++ (bx ++ b2)) := by
      rw [List.append_assoc]
      exact List.Perm.append_left b1 List.perm_append_comm
    exact p.nodup_iff.mpr n
  · have p : ((b1 ++ b2) ++ bx).Perm (b1 ++ (bx ++ b2)) := by
      rw [List.append_assoc]
      exact List.Perm.append_left b1 List.perm_append_comm
    exact p.mem_iff.mp hx
theorem dropLast_erase {α : Type} (l : List α) : l.dropLast = l.eraseIdx (l.length - 1) := by
  rw [List.dropLast_eq_take, List.eraseIdx_eq_take_drop_succ]
  rw [List.drop_of_length_le (by omega), List.append_nil]
/-- an item goes out of a list -/
theorem erase_of {K : PySem.W.Frag} {w : World} {P : Addr → Prop} {H : Hp} {xs : List D} {d : D} {j : Nat} {u : V} {bs : List Addr} {Q : VK} (re : Rep K w P H (.lst true xs) u bs) (nn : bs.Nodup) (np : ∀ x ∈ bs, ¬ P x) (hj : xs[j]? = some d)
    (k : ∀ a o v bs' cy', a ∈ bs → Ob H a → Rep K w P (L2.upd H a o) (.lst true (xs.eraseIdx j)) u bs' → Rep K w P (L2.upd H a o) d v cy' → (bs' ++ cy').Nodup → (∀ x ∈ bs' ++ cy', x ∈ bs) → Q v (L2.upd H a o)) :
    ∃ a vs v, u = .ref a ∧ H a = some (.lst vs) ∧ vs[j]? = some v ∧ vs.length = xs.length ∧ Q v (L2.upd H a (.lst (vs.eraseIdx j))) := by
  cases re with
  | lstO hH rr =>
    rename_i a vs as
    obtain ⟨na, nas⟩ := List.nodup_cons.mp nn
    have wr : Wr P H a := ⟨.inl ⟨_, hH⟩, np a List.mem_cons_self⟩
    obtain ⟨v, a1, a2, hv, r1, r2, n3, m3⟩ := rr.eraseAt nas hj
    have na1 : a ∉ a1 := fun z => na (m3 a (List.mem_append_right _ z))
    have na2 : a ∉ a2 := fun z => na (m3 a (List.mem_append_left _ z))
    refine ⟨a, vs, v, rfl, hH, hv, rr.length.symm, k a _ v (a :: a2) a1 List.mem_cons_self (.inl ⟨_, hH⟩) (.lstO upd_same (r2.upd wr na2)) (r1.upd wr na1) (List.nodup_cons.mpr ⟨fun z => na (m3 a z), n3⟩) fun x hx => ?_⟩
    rcases List.mem_cons.mp hx with rfl | hx
    · exact List.mem_cons_self
    · exact List.mem_cons_of_mem _ (m3 x hx)
theorem md_pop : MetD X rPop gPop := fun P H e u bs ds ys cy e' res Q fz re ry nn np hg k => by
  unfold gPop at hg
  split at hg
  · rename_i xs
    split at hg
    · rename_i d hd
      cases hg
      cases ry
      rw [List.append_nil] at nn np k
      obtain ⟨a, vs, v, rfl, hH, hv, hl, q⟩ := erase_of (Q := Q) re nn np hd (fun a o v bs' cy' ha hob r1 r2 n s => k a o v bs' cy' ha hob (by rw [dropLast_erase]; exact r1) r2 n s)
      exact ⟨a, vs, v, rfl, rfl, hH, by rw [hl]; exact hv, by rw [dropLast_erase, hl]; exact q⟩
    · cases hg
  · cases hg
/-- x.pop(i) -/
def gPopAt : D → List D → Option (D × D)
  | .lst true xs, [.int i] => if -(2 ^ 63) ≤ i ∧ i < 2 ^ 63 then (match seqIndex? i xs.length with
    | some j => (match xs[j]? with
      | some d => some (.lst true (xs.eraseIdx j), d)
      | none => none)
    | none => none) else none
  | _, _ => none
theorem md_popAt : MetD X rPopAt gPopAt := fun P H e u bs ds ys cy e' res Q fz re ry nn np hg k => by
  unfold gPopAt at hg
  split at hg
  · rename_i xs i
    split at hg
    · rename_i hi
      split at hg
      · rename_i j hj
        split at hg
        · rename_i d hd
          cases hg
          obtain ⟨y, rfl, r1⟩ := ry.sing
          obtain ⟨rfl, rfl⟩ := r1.int_eq
          rw [List.append_nil] at nn np k
          obtain ⟨a, vs, v, rfl, hH, hv, hl, q⟩ := erase_of (Q := Q) re nn np hd k
          exact ⟨a, vs, i, j, v, rfl, rfl, hH, hi.1, hi.2, by rw [hl]; exact hj, hv, q⟩
        · cases hg
      · cases hg
    · cases hg
  · cases hg
/-- x.extend(y), y a list -/
def gExtend : D → List D → Option (D × D)
  | .lst true xs, [.lst _ ys] => if xs.length + ys.length ≤ sizeLine then some (.lst true (xs ++ ys), .non) else none
  | _, _ => none
theorem md_extend : MetD X rExtend gExtend := fun P H e u bs ds ys cy e' res Q fz re ry nn np hg k => by
  unfold gExtend at hg
  split at hg
  · rename_i xs o zs
    split at hg
    · rename_i hz
      cases hg
      obtain ⟨y, rfl, r1⟩ := ry.sing
      obtain ⟨b, us, b2, rfl, hb, rb, sb⟩ := r1.lst_h
      cases re with
      | lstO hH rr =>
        rename_i a vs as
        obtain ⟨nbs, ncy, nbc⟩ := List.nodup_append.mp nn
        obtain ⟨na, nas⟩ := List.nodup_cons.mp nbs
        have wr : Wr P H a := ⟨.inl ⟨_, hH⟩, np a (by simp)⟩
        have nac : a ∉ b2 := fun z => nbc a List.mem_cons_self a (sb.subset z) rfl
        refine ⟨a, b, vs, us, rfl, rfl, hH, hb, by rw [← rr.length, ← rb.length]; exact hz, k a _ .non (a :: (as ++ b2)) [] List.mem_cons_self (.inl ⟨_, hH⟩) (.lstO upd_same ((rr.upd wr na).append (rb.upd wr nac))) .non ?_ (fun x hx => ?_)⟩
        · rw [List.append_nil]
          exact List.Nodup.sublist (List.Sublist.append (List.Sublist.refl (a :: as)) sb) nn
        · rw [List.append_nil] at hx
          rcases List.mem_append.mp (show x ∈ (a :: as) ++ b2 from hx) with z | z
          · exact List.mem_append_left _ z
          · exact List.mem_append_right _ (sb.subset z)
    · cases hg
  · cases hg

theorem dg_sub (ho : PE X o (tP B i es)) (hi : PE X idx (tE B.L rd f)) (hL : B.L.K = X.K) (hW : B.L.w = X.w)
    (ha : ∀ v, assign (.Subscript o idx pos) X.env v = (do
      let ov ← holding [v] (eval o X.env)
      let iv ← holding [v, ov] (eval idx X.env)
      standAt pos
      holding [v, ov, iv] (setItem ov iv v)
      release [v, ov, iv] []) := by intro _; rfl) : DG X B (.Subscript o idx pos) (.sub i (es ++ [f])) :=
  PGi (pg_sub ho hi set_list ha) fun y σ H Q ⟨ρ, d, fr, fvs, r, q⟩ => by
    simp only [Tg.put] at q
    cases hks : keysOf (es ++ [f]) ρ with
    | none => rw [hks] at q; exact q.elim
    | some ks =>
    cases h0 : ρ[i]? with
    | none => rw [hks, h0] at q; exact q.elim
    | some x0 =>
    cases x0 with
    | none => rw [hks, h0] at q; exact q.elim
    | some d0 =>
    simp only [hks, h0] at q
    cases hs : setP d0 ks d with
    | none => rw [hs] at q; exact q.elim
    | some d1 =>
    rw [hs] at q
    simp only [Option.map_some] at q
    obtain ⟨ks0, k, rfl, hk0, hf, hc⟩ := keysOf_snoc hks
    rw [setP_snoc] at hs
    by_cases hl1 : pathL d0 ks0 = true
    · rw [if_pos hl1] at hs
      obtain ⟨e, hg, hs⟩ := Option.bind_eq_some_iff.mp hs
      obtain ⟨e', he', hp⟩ := Option.bind_eq_some_iff.mp hs
      obtain ⟨xs, n, rfl, rfl⟩ : ∃ xs n, e = .lst true xs ∧ k = .int n := by
        unfold dSet at he'
        split at he'
        · exact ⟨_, _, rfl, rfl⟩
        · cases he'
      refine ⟨ρ, d :: fr, y :: fvs, ks0, d0, _, r, hk0, h0, hl1, hg, fun x H1 px r1 => ?_⟩
      obtain ⟨P1, vw, k1⟩ := r1.view rd
      refine ⟨ρ, P1, vw, ?_⟩
      rw [hf]
      intro z H2 o2
      have e2 := o2.same
      obtain ⟨_, _, _, rz, _⟩ := id o2
      cases rz
      have r2 := r1.same e2
      have px2 : PathS H2 σ i ks0 x := by obtain ⟨v, a, b⟩ := px; exact ⟨v, a, b.same e2⟩
      obtain ⟨u, P, bs, cy, ps, re, ry, nn, np, fz, upd⟩ := RelVs.mut (ds := [d]) (ys := [y]) r2 rfl h0 hl1 hg
      obtain ⟨v1, a1, b1⟩ := px2
      obtain ⟨v2, a2, b2⟩ := ps
      rw [a1] at a2
      cases a2
      have := b1.inj b2
      subst this
      have ry1 := ry.one
      · simp only [dSet] at he'
        cases hj : ixN xs.length n with
        | none => rw [hj] at he'; cases he'
        | some j =>
        rw [hj] at he'
        cases he'
        cases re with
        | lstO hH rr =>
          rename_i a vs as
          obtain ⟨nbs, ncy, nbc⟩ := List.nodup_append.mp nn
          obtain ⟨na, nas⟩ := List.nodup_cons.mp nbs
          have wr : Wr P H2 a := ⟨.inl ⟨_, hH⟩, np a (by simp)⟩
          have nac : a ∉ cy := fun z => nbc a List.mem_cons_self a z rfl
          refine ⟨a, vs, n, j, rfl, rfl, hH, by rw [← rr.length]; exact hj, ?_⟩
          have hlt : j < xs.length := (ixN_seq hj).2.1
          obtain ⟨x1, hx1⟩ : ∃ x1, xs[j]? = some x1 := ⟨xs[j], List.getElem?_eq_getElem hlt⟩
          obtain ⟨xs1, zs, us, ws, v3, c1, cx, c2, e1, e2', e3, e4, e5, r1', r2', r3'⟩ := rr.atSplit hx1
          subst e5
          obtain ⟨n1, n2, n3⟩ := List.nodup_append.mp nas
          obtain ⟨n4, n5, n6⟩ := List.nodup_append.mp n2
          have na1 : a ∉ c1 := fun z => na (List.mem_append_left _ z)
          have na2 : a ∉ c2 := fun z => na (List.mem_append_right _ (List.mem_append_right _ z))
          have es1 : xs.set j d = xs1 ++ (d :: zs) := by rw [e1, ← e3]; simp
          have es2 : vs.set j y = us ++ (y :: ws) := by rw [e2', ← e4]; simp
          have sub1 : ∀ x ∈ c1 ++ (cy ++ c2), x ∈ (c1 ++ (cx ++ c2)) ∨ x ∈ cy := fun x hx => by
            rcases List.mem_append.mp hx with z | z
            · exact .inl (List.mem_append_left _ z)
            · rcases List.mem_append.mp z with z | z
              · exact .inr z
              · exact .inl (List.mem_append_right _ (List.mem_append_right _ z))
          have hnd : (a :: (c1 ++ (cy ++ c2))).Nodup := by
            refine List.nodup_cons.mpr ⟨fun z => (sub1 a z).elim na nac, List.nodup_append.mpr ⟨n1, List.nodup_append.mpr ⟨ncy, n5, fun x hx y hy e => ?_⟩, fun x hx y hy e => ?_⟩⟩
            · subst e
              exact nbc x (List.mem_cons_of_mem _ (List.mem_append_right _ (List.mem_append_right _ hy))) x hx rfl
            · subst e
              rcases List.mem_append.mp hy with z | z
              · exact nbc x (List.mem_cons_of_mem _ (List.mem_append_left _ hx)) x z rfl
              · exact n3 x hx x (List.mem_append_right _ z) rfl
          have hsub : ∀ x ∈ a :: (c1 ++ (cy ++ c2)), x ∈ (a :: (c1 ++ (cx ++ c2))) ++ cy := fun x hx => by
            rcases List.mem_cons.mp hx with rfl | hx
            · exact List.mem_append_left _ List.mem_cons_self
            · exact (sub1 x hx).elim (fun z => List.mem_append_left _ (List.mem_cons_of_mem _ z)) (fun z => List.mem_append_right _ z)
          obtain ⟨d3, hp3, r3⟩ := upd a (.lst (vs.set j y)) (.lst true (xs.set j d)) (a :: (c1 ++ (cy ++ c2))) [] [] [] List.mem_cons_self (.inl ⟨_, hH⟩) (.lstO (vs := vs.set j y) upd_same (by rw [es1, es2]; exact (r1'.upd wr na1).append (.cons (ry1.upd wr nac) (r3'.upd wr na2)))) .nil (by rw [List.append_nil]; exact hnd) (by rw [List.append_nil]; exact hsub)
          rw [hp] at hp3
          cases hp3
          exact q σ _ r3
    · rw [if_neg hl1] at hs; cases hs

theorem su_at {i : Nat} {e : Expr} {ap rp : Pos} (hv : ∀ (a : Addr) (oe : Obj) (pn : List (Addr × Obj)), PE (X.suite a ((a, oe) :: pn)) e (tVar i)) (hb : attributeBase e "at" X.env (eval e X.env) = eval e X.env := by rfl) :
    ∀ (a : Addr) (oe : Obj) (cls : Value) (d : Option Addr) (pn : List (Addr × Obj)), Zc cls d oe → (∃ vs, oe.data = .fields vs) → PSs (X.suite a ((a, oe) :: pn)) [.Return (some (.Attribute e "at" ap)) rp] (tSu X i (fun n => .int n) a cls d) :=
  fun a oe cls d pn hz hf => ⟨fun pins s σ H D I ⟨C, dd, n, ec, xf, no, ed, hH, hσ, P, fz, q⟩ => by
    refine (pss_one (ps_ret (pe_xf xf no hz hf (hv a oe pn) hb))).run pins s σ H D I ?_
    exact ⟨_, hσ, rfl, ec, dd, _, .int n, ed, hH, by simp [List.lookup], q _ H (.int n)⟩⟩
theorem su_tup {i : Nat} {e : Expr} {w : Str} {ap rp cp tp : Pos} {k j : Nat} (hv : ∀ (a : Addr) (oe : Obj) (pn : List (Addr × Obj)), PE (X.suite a ((a, oe) :: pn)) e (tVar i)) (hb : attributeBase e "at" X.env (eval e X.env) = eval e X.env := by rfl) :
    ∀ (a : Addr) (oe : Obj) (cls : Value) (d : Option Addr) (pn : List (Addr × Obj)), Zc cls d oe → (∃ vs, oe.data = .fields vs) → PSs (X.suite a ((a, oe) :: pn)) [.Return (some (.Tuple [.Constant (.str w) k cp, .Attribute e "at" ap] j tp)) rp] (tSu X i (fun n => .tup [.str w, .int n]) a cls d) :=
  fun a oe cls d pn hz hf => ⟨fun pins s σ H D I ⟨C, dd, n, ec, xf, no, ed, hH, hσ, P, fz, q⟩ => by
    refine (pss_one (ps_ret (pe_tup (pa_cons pe_str (pa_cons (pe_xf xf no hz hf (hv a oe pn) hb) pa_nil))))).run pins s σ H D I ?_
    refine ⟨_, hσ, rfl, ec, dd, _, .int n, ed, hH, by simp [List.lookup], by show 2 ≤ sizeLine; decide, fun p hp => q _ _ ?_⟩
    exact Out.newT (as := []) hp (.cons (as := []) (bs := []) (.str w) (.cons (as := []) (bs := []) (.int n) .nil)) .nil⟩
end
end DL

set_option Elab.async false
set_option linter.all false
set_option maxRecDepth 100000
set_option maxHeartbeats 1000000
namespace DL
open PySem PySem.Spec L2
open PyProof.Rows hiding St

mutual
theorem toPy_nodict : ∀ (d : D) (p : PyData), toPy d = some p → p.hasDict = false
  | .non, p, h => by simp only [toPy, Option.some.injEq] at h; subst h; simp only [PyData.hasDict]
  | .bl _, p, h => by simp only [toPy, Option.some.injEq] at h; subst h; simp only [PyData.hasDict]
  | .int _, p, h => by simp only [toPy, Option.some.injEq] at h; subst h; simp only [PyData.hasDict]
  | .str _, p, h => by simp only [toPy, Option.some.injEq] at h; subst h; simp only [PyData.hasDict]
  | .tup xs, p, h => by
    simp only [toPy] at h
    cases e : toPys xs with
    | none => rw [e] at h; cases h
    | some ps => rw [e] at h; cases h; simp only [PyData.hasDict]; exact toPys_nodict xs ps e
  | .lst _ xs, p, h => by
    simp only [toPy] at h
    cases e : toPys xs with
    | none => rw [e] at h; cases h
    | some ps => rw [e] at h; cases h; simp only [PyData.hasDict]; exact toPys_nodict xs ps e
  | .dic _ _, p, h => by simp [toPy] at h
  | .set _, p, h => by simp [toPy] at h
  | .scr _, p, h => by simp [toPy] at h
  | .pin _ _ _, p, h => by simp [toPy] at h
theorem toPys_nodict : ∀ (ds : List D) (ps : List PyData), toPys ds = some ps → PyData.hasDictAll ps = false
  | [], ps, h => by simp only [toPys, Option.some.injEq] at h; subst h; simp only [PyData.hasDictAll]
  | d :: r, ps, h => by
    simp only [toPys] at h
    cases e1 : toPy d with
    | none => rw [e1] at h; cases h
    | some p =>
      cases e2 : toPys r with
      | none => rw [e1, e2] at h; cases h
      | some qs =>
        rw [e1, e2] at h
        cases h
        simp only [PyData.hasDictAll, toPy_nodict d p e1, toPys_nodict r qs e2, Bool.or_self]
end
section
variable {X : Cx} {pins : List (Addr × Obj)} {σ : St} {H : Hp} {s : Shared} {P : Addr → Prop}
mutual
theorem Rep.reads (I : Inv X pins σ H s) : ∀ (d : D) {v : V} {as : List Addr} {p : PyData} {u : Value}, Rep X.K X.w P H d v as → toPy d = some p → RelV v u → ∃ bs, Reads s.heap u p bs
  | .non, v, as, p, u, r, h, ru => by simp only [toPy, Option.some.injEq] at h; subst h; cases r; cases ru; exact ⟨_, .none⟩
  | .bl _, v, as, p, u, r, h, ru => by simp only [toPy, Option.some.injEq] at h; subst h; cases r; cases ru; exact ⟨_, .bool _⟩
  | .int _, v, as, p, u, r, h, ru => by simp only [toPy, Option.some.injEq] at h; subst h; cases r; obtain ⟨t, rfl⟩ := ru; exact ⟨_, .int _ _⟩
  | .str _, v, as, p, u, r, h, ru => by simp only [toPy, Option.some.injEq] at h; subst h; cases r; obtain ⟨t, rfl⟩ := ru; exact ⟨_, .str _ _⟩
  | .tup xs, v, as, p, u, r, h, ru => by
    simp only [toPy] at h
    cases e : toPys xs with
    | none => rw [e] at h; cases h
    | some ps =>
      rw [e] at h
      cases h
      obtain ⟨a, vs, rfl, ha, ra⟩ := r.tup_inv
      cases ru
      obtain ⟨its, rv, ⟨o, ho, hc, n, hd⟩, _⟩ := I.tuple (.of ha)
      obtain ⟨bs, rb⟩ := Reps.reads I xs ra e rv
      exact ⟨_, .tuple ho hc hd rb⟩
  | .lst _ xs, v, as, p, u, r, h, ru => by
    simp only [toPy] at h
    cases e : toPys xs with
    | none => rw [e] at h; cases h
    | some ps =>
      rw [e] at h
      cases h
      obtain ⟨a, vs, bs, rfl, ha, ra, _⟩ := r.lst_h
      cases ru
      obtain ⟨its, rv, ⟨o, n, ho, hc, _, hd⟩, _⟩ := I.list (.of ha)
      obtain ⟨bs, rb⟩ := Reps.reads I xs ra e rv
      exact ⟨_, .list ho hc hd rb⟩
  | .dic _ _, v, as, p, u, r, h, ru => by simp [toPy] at h
  | .set _, v, as, p, u, r, h, ru => by simp [toPy] at h
  | .scr _, v, as, p, u, r, h, ru => by simp [toPy] at h
  | .pin _ _ _, v, as, p, u, r, h, ru => by simp [toPy] at h
theorem Reps.reads (I : Inv X pins σ H s) : ∀ (ds : List D) {vs : List V} {as : List Addr} {ps : List PyData} {us : List Value}, Reps X.K X.w P H ds vs as → toPys ds = some ps → Vals vs us → ∃ bs, ReadsAll s.heap us ps bs
  | [], vs, as, ps, us, r, h, ru => by
    simp only [toPys, Option.some.injEq] at h
    subst h
    cases r
    cases ru
    exact ⟨_, .nil⟩
  | d :: ds, vs, as, ps, us, r, h, ru => by
    simp only [toPys] at h
    cases e1 : toPy d with
    | none => rw [e1] at h; cases h
    | some p =>
      cases e2 : toPys ds with
      | none => rw [e1, e2] at h; cases h
      | some qs =>
        rw [e1, e2] at h
        cases h
        obtain ⟨v, vr, a1, a2, rfl, rfl, r1, r2⟩ := r.cons_inv
        cases ru with
        | cons ru1 ru2 =>
          obtain ⟨b1, h1⟩ := Rep.reads I d r1 e1 ru1
          obtain ⟨b2, h2⟩ := Reps.reads I ds r2 e2 ru2
          exact ⟨_, .cons h1 h2⟩
end
end
/-- data whose text is told -/
def okR (d : D) : Bool := match toPy d with
  | some p => p.showable && decide (p.depth ≤ 60) && decide (p.shown.length ≤ sizeLine)
  | none => false
def dRepr (d : D) : Str := match toPy d with
  | some p => p.shown
  | none => ""
def gRepr : List D → ER
  | [.tup xs] => if okR (.tup xs) = true then .val (.str (dRepr (.tup xs))) else .stuck
  | [.lst o xs] => if okR (.lst o xs) = true then .val (.str (dRepr (.lst o xs))) else .stuck
  | [.bl b] => .val (.str (if b then "True" else "False"))
  | [.non] => .val (.str "None")
  | _ => .stuck
theorem NoX.repr : NoX gRepr := fun ds c n h => by unfold gRepr at h; split at h <;> (first | cases h | (split at h <;> cases h))
section
variable {X : Cx}
theorem repr_ref {pins : List (Addr × Obj)} {σ : St} {H : Hp} {s : Shared} {P : Addr → Prop} {d : D} {as : List Addr} {a : Addr} {Q : VK} (hu : X.A.units + 64 < cLine) (hg : X.A.guards = some []) (I : Inv X pins σ H s) (r : Rep X.K X.w P H d (.ref a) as) (ok : okR d = true) (q : Q (.str (dRepr d)) H) :
    wpAny (model X.prog X.w) X.A (call (.builtin "repr") [.ref a]) (EP X pins σ Q) X.xe s := by
  unfold okR at ok
  split at ok
  · rename_i p hp
    simp only [Bool.and_eq_true, decide_eq_true_eq] at ok
    obtain ⟨bs, rd⟩ := r.reads I d hp (u := .ref a) rfl
    refine repr_of_reads' rd ok.1.1 (PyData.noDict_hsm (toPy_nodict d p hp)) hg (by have := ok.1.2; omega) (fun _ _ e => e) (fun h' u tk k => ?_) ok.2
    have I' : Inv X pins σ H { s with heap := h', toks := tk } := I.kept (t' := tk) k
    refine ⟨.str (dRepr d), H, I', ⟨u, ?_⟩, q⟩
    unfold dRepr
    rw [hp]
  · cases ok
theorem call_repr' (hu : X.A.units + 64 < cLine) (hg : X.A.guards = some []) : CallD X (.builtin "repr") gRepr := by
  intro pins s σ H xs us Q I r h
  obtain ⟨P, as, ds, res, fz, rr, ow, hgr, q⟩ := h
  unfold gRepr at hgr
  split at hgr
  · obtain ⟨v, rfl, r1⟩ := rr.sing
    split at hgr
    · rename_i ok
      cases hgr
      obtain ⟨a, vs, rfl, ha, ra⟩ := id r1.tup_inv
      cases r with
      | cons r0 rn =>
        cases rn
        cases r0
        exact repr_ref hu hg I r1 ok (q _ H (.str _))
    · cases hgr
  · obtain ⟨v, rfl, r1⟩ := rr.sing
    split at hgr
    · rename_i ok
      cases hgr
      obtain ⟨a, vs, bs, rfl, ha, ra, _⟩ := id r1.lst_h
      cases r with
      | cons r0 rn =>
        cases rn
        cases r0
        exact repr_ref hu hg I r1 ok (q _ H (.str _))
    · cases hgr
  · obtain ⟨v, rfl, r1⟩ := rr.sing
    cases hgr
    obtain ⟨rfl, _⟩ := r1.bl_eq
    cases r with
    | cons r0 rn =>
      cases rn
      cases r0
      exact PySem.P.repr_of_bool ⟨.str _, H, I.tok _, ⟨_, rfl⟩, q _ H (.str _)⟩
  · obtain ⟨v, rfl, r1⟩ := rr.sing
    cases hgr
    cases r1
    cases r with
    | cons r0 rn =>
      cases rn
      cases r0
      exact PySem.P.repr_of_none ⟨.str _, H, I.tok _, ⟨_, rfl⟩, q _ H (.str _)⟩
  · cases hgr
end

section
variable {P : Program} {w : World} {K : PySem.W.Frag} {mg mb : Str → Option Value} {k : Nat} {fa a : Addr} {fd : FuncData} {x : Str} {F : List D → ER} {s₁ : Shared} {vs : List Value} {ns : List Int}
/-- at one abstract heap in which nothing but the script is tracked -/
theorem law_at (H : Hp) (hA : ∀ b, H b ≠ none → b = a ∧ ∃ o xs, H b = some (.frz o (.lst xs))) (hK : H a ≠ none → K.lookup a = none) (hS : Scr K H a (ns.map V.int)) (hok : HOk P w H s₁.heap)
    (KX : K.In s₁.heap) (hns : s₁.heap.Ns mainGlobals mg) (hb : s₁.heap.Ns builtinsNs mb) (hbb : ∀ x : Str, x ≠ "__name__" → mb x = bootBuiltins x) (hlim : s₁.heap.NoLimit) (hg : s₁.gens = #[])
    (ha : s₁.heap.get? a = some { cls := .type "list", data := .seq vs.toArray }) (hr : RoomG k callerA) (G : ∀ base : Heap, K.In base → base.Ns mainGlobals mg → FnG P w K mg base k fa fd [x] (spD K w mg F))
    (hbind : ∀ (s : Shared) (u : Value), BindsTo s fd ⟨[u], []⟩ [(x, u)]) (hF : F [.scr ns] = .val (.bl true)) :
    codeAny (model P w) callerA (.call (.ref fa) ⟨[.ref a], []⟩) (fun r s' => r = .ok (.ret (.bool true)) ∧ OldK s₁.heap s'.heap ∧ s'.os = s₁.os ∧ AllBare s'.gens) s₁ := by
  have dictFree : ∀ {b : Addr} {o : Obj} {es : Array DictEntry} {ep : Nat}, s₁.heap.get? b = some o → o.data = .dict es ep → H b = none := fun {b o es ep} e d => by
    cases q : H b with
    | none => rfl
    | some u =>
      obtain ⟨rfl, _⟩ := hA b (by rw [q]; exact Option.some_ne_none _)
      rw [ha] at e
      cases e
      exact absurd (show Data.seq vs.toArray 0 = Data.dict es ep from d) (fun z => by cases z)
  have nsB : ∀ {b : Addr} {m : Str → Option Value}, s₁.heap.Ns b m → (hidT s₁.heap H).Ns b m := fun {b m} ⟨o, es, ep, e, d, r⟩ => ⟨o, es, ep, hidT_get e (dictFree e d), d, r⟩
  have KB : K.In (hidT s₁.heap H) := fun b o e => hidT_get (KX b o e) (by
    cases q : H b with
    | none => rfl
    | some u =>
      obtain ⟨rfl, _⟩ := hA b (by rw [q]; exact Option.some_ne_none _)
      rw [hK (by rw [q]; exact Option.some_ne_none _)] at e
      cases e)
  have md : Mod K mg (hidT s₁.heap H) := ⟨KB, nsB hns, ⟨mb, nsB hb, hbb⟩, let ⟨mc, h1, h2⟩ := hlim; ⟨mc, nsB h1, h2⟩⟩
  have e0 : Env0 P w K mg (hidT s₁.heap H) callerA [] s₁ H := ⟨rfl, md, fun b o e => of_hidT e, Nat.le_of_eq (hidT_size _ _), trivial, fun b hb => absurd (show b ∈ ([] : List Addr) from hb) (by simp), hok, .of_eq hg⟩
  have sp : spD K w mg F [.ref a] H (fun v _ => v = .bl true) fun _ _ _ => False := by
    refine ⟨fun _ => False, [.scr ns], fun _ z => z.elim, .cons (as := []) (bs := []) (.scr hS) .nil, ?_⟩
    rw [hF]
    rintro v H' ⟨_, _, _, r, _⟩
    cases r
    rfl
  refine codeAny_mono ((G _ KB (nsB hns)).run callerA [] s₁ H ⟨[.ref a], []⟩ [.ref a] [.ref a] _ _ hr e0 (hbind s₁ (.ref a)) (.cons rfl .nil) sp) fun r s' h => ?_
  cases r with
  | error e =>
    obtain ⟨_, _, _, _, _, _, _, _, _, _, _, _, z⟩ := h
    exact z.elim
  | ok fl =>
    cases fl with
    | ret u =>
      obtain ⟨v, H', os, bare, un, hok', r', q⟩ := h
      have q' : v = .bl true := q
      subst q'
      obtain rfl : u = Value.bool true := r'
      refine ⟨rfl, OldK.of_keep fun b o e => ?_, os, bare⟩
      cases q : H b with
      | none => exact un.keep b o e q (fun z => absurd (show b ∈ ([] : List Addr) from z) (by simp)) (by simp)
      | some u =>
        obtain ⟨_, ob, xs, z⟩ := hA b (by rw [q]; exact Option.some_ne_none _)
        obtain ⟨e1, _⟩ := hok b _ z
        obtain ⟨e2, _⟩ := hok' b _ (un.frzs b ob _ z)
        rw [e] at e1
        cases e1
        exact e2
    | next => exact False.elim h
    | brk => exact False.elim h
    | cont => exact False.elim h
theorem law_callG (KX : K.In s₁.heap) (hns : s₁.heap.Ns mainGlobals mg) (hb : s₁.heap.Ns builtinsNs mb) (hbb : ∀ x : Str, x ≠ "__name__" → mb x = bootBuiltins x) (hlim : s₁.heap.NoLimit) (hg : s₁.gens = #[])
    (ha : s₁.heap.get? a = some { cls := .type "list", data := .seq vs.toArray }) (hi : IntsAre vs ns) (hl : ns.length ≤ sizeLine) (hr : RoomG k callerA) (G : ∀ base : Heap, K.In base → base.Ns mainGlobals mg → FnG P w K mg base k fa fd [x] (spD K w mg F))
    (hbind : ∀ (s : Shared) (u : Value), BindsTo s fd ⟨[u], []⟩ [(x, u)]) (hF : F [.scr ns] = .val (.bl true)) :
    codeAny (model P w) callerA (.call (.ref fa) ⟨[.ref a], []⟩) (fun r s' => r = .ok (.ret (.bool true)) ∧ OldK s₁.heap s'.heap ∧ s'.os = s₁.os ∧ AllBare s'.gens) s₁ := by
  have rv := vals_ints hi
  by_cases hk : ∃ o, K.lookup a = some o
  · obtain ⟨o, hk⟩ := hk
    have e := KX a o hk
    rw [ha] at e
    cases e
    exact law_at (fun _ => none) (fun b z => absurd rfl z) (fun z => absurd rfl z) (.inr ⟨_, vs.toArray, _, hk, rfl, rfl, rfl, by rw [List.size_toArray, hi.length]; exact hl, by simpa using rv⟩) (fun b u z => by cases z) KX hns hb hbb hlim hg ha hr G hbind hF
  · have hn : K.lookup a = none := by
      cases e : K.lookup a with
      | none => rfl
      | some o => exact absurd ⟨o, e⟩ hk
    have up : ∀ b u, (L2.upd (fun _ => none) a (.frz { cls := .type "list", data := .seq vs.toArray } (.lst (ns.map V.int)))) b = some u → b = a ∧ u = .frz { cls := .type "list", data := .seq vs.toArray } (.lst (ns.map V.int)) := fun b u z => by
      by_cases hba : b = a
      · subst hba
        rw [upd_same] at z
        exact ⟨rfl, (Option.some.inj z).symm⟩
      · rw [upd_ne hba] at z; cases z
    refine law_at (L2.upd (fun _ => none) a (.frz { cls := .type "list", data := .seq vs.toArray } (.lst (ns.map V.int)))) (fun b z => ?_) (fun _ => hn) (.inl ⟨_, upd_same⟩) (fun b u z => ?_) KX hns hb hbb hlim hg ha hr G hbind hF
    · obtain ⟨u, hu⟩ := Option.ne_none_iff_exists'.mp z
      obtain ⟨rfl, rfl⟩ := up b u hu
      exact ⟨rfl, _, _, hu⟩
    · obtain ⟨rfl, rfl⟩ := up b u z
      exact ⟨ha, by rw [List.length_map]; exact hl, vs, _, rv, ha⟩
end
/-- the goal that k_head leaves (case hc) -/
theorem walk_ofG {l : PySem.W.OpenLaw} {n k : Nat} {q : Program} {loose : List Str} {XP : (Str → Option Value) → Heap → Prop} {YP : World → Heap → Prop} {d : DefRec} {K : Params → PySem.W.Frag} {F : List D → ER} {x : Str}
    (hn : l.most = some n) (hn2 : n ≤ sizeLine) (hdf : d.params.defaults = []) (hr : Room k callerA) (hY : ∀ (w : World) (h : Heap), YP w h → (K w.params).In h)
    (G : ∀ (w : World) (mg : Str → Option Value) (fa : Addr) (h : Heap), (K w.params).In h → h.Ns mainGlobals mg → mg d.name = some (.ref fa) →
      ∃ fd : FuncData, (∀ (s : Shared) (u : Value), BindsTo s fd ⟨[u], []⟩ [(x, u)]) ∧ ∀ base : Heap, (K w.params).In base → base.Ns mainGlobals mg → FnG l.prog w (K w.params) mg base k fa fd [x] (spD (K w.params) w mg F))
    (hF : ∀ ns : List Int, ns.length ≤ n → F [.scr ns] = .val (.bl true)) :
    PySem.W.WalkO q loose XP YP l.row.toRowW d [] (fun f vs => PySem.call f vs) := by
  refine Att.attach_call hn hdf fun w s₀ s₁ mg mb fa o pm cd doc a vs ns GD Y ho hd hcd hmg hobj hints hlen hg => ?_
  have KX := hY w _ Y
  obtain ⟨fd, hb, hG⟩ := G w mg fa _ KX GD.T.g hmg
  exact law_callG KX GD.T.g GD.T.b GD.T.builtins GD.T.nolimit hg hobj hints (Nat.le_trans hlen hn2) ⟨hr, rfl⟩ hG hb (hF ns hlen)
end DL

set_option Elab.async false
set_option linter.all false
set_option maxRecDepth 100000
set_option maxHeartbeats 1000000
namespace DL
open PySem PySem.Spec L2
open PyProof.Rows hiding St

/-- the def x stands at f, of the statement st -/
structure DefAt (K : PySem.W.Frag) (mg : Str → Option Value) (x : Str) (st : Stmt) (ps : List Str) : Prop where
  ex : ∃ (f : Addr) (fd : FuncData), Fun K x x st f fd ∧ mg x = some (.ref f) ∧ Binds K fd ps []
/-- the def x keeps its promise -/
def OkD (P : Program) (w : World) (K : PySem.W.Frag) (mg : Str → Option Value) (base : Heap) (k : Nat) (x : Str) (ps : List Str) (F : List D → ER) : Prop :=
  ∃ (f : Addr) (fd : FuncData), mg x = some (.ref f) ∧ PySem.W.keepIn K (.ref f) = true ∧ Binds K fd ps [] ∧ FnG P w K mg base k f fd ps (spD K w mg F)
theorem OkD.mk' {P : Program} {w : World} {K : PySem.W.Frag} {mg : Str → Option Value} {base : Heap} {x : Str} {st : Stmt} {N ps : List Str} {k : Nat} {G : Sv} (T : DefAt K mg x st ps) (S : FnScope N ps (defScope st))
    (hbody : ∀ (f : Addr) (cdv : Value) (A : Around) (outer : List PySem.Env) (s : Shared) (H : Hp) (E : XK) (P0 : Addr → Prop) (fz : Fz P0 H), RoomG k (A.deeper (envOfC x (defScope st) s.heap.objs.size f cdv)) →
      DSs (cxOf (L2.CX P w) P w K mg base N x (defScope st) f cdv A outer s H E) ⟨ltF K w mg E, H, P0, fz⟩ (defBody st) G) : OkD P w K mg base (k + 1) x ps (runF N.length ps.length G) := by
  obtain ⟨f, fd, F, hm, hb⟩ := T.ex
  exact ⟨f, fd, hm, F.kp, hb, fn_ofG F S fun cdv A outer s H E P0 fz hr => hbody f cdv A outer s H E P0 fz hr⟩
section
variable {X : Cx} {W : WX} {B : Fx} {e a b c : Expr} {es : List Expr} {pos : Pos} {f1 f2 f3 : Ev} {l : Lv} {r1 r2 r3 rd : List Nat}
theorem de_callO {k : Nat} {ps : List Str} {F : List D → ER} {x : Str} {p : Pos} {kk : Nat} (dx : Dx X W kk) (G : OkD X.prog X.w X.K X.mg X.base k x ps F) (hkk : k ≤ kk) (hg : Gl X x) (ha : DA X W (e :: es) rd l) (hdb : (x == ("__debug__" : Str)) = false := by decide)
    (he : starEach (e :: es) X.env = (false, eval e X.env) :: starEach es X.env := by rfl) (hpl : (backTo pos (starEach es X.env)).any (·.1) = false := by rfl) :
    DE X W (.Call (.Name x p) (e :: es) [] pos) rd (eF F l) := by
  obtain ⟨f, fd, hm, hk, hb, G⟩ := G
  exact de_call dx G hkk hm hk hb hg ha hdb he hpl

/-- both values, then both stores -/
def sPar (i j : Nat) (l : MLv) : Sv := fun ρ => match l ρ with
  | .vals [d, e] ρ' => .nx ((ρ'.set i (some d)).set j (some e))
  | .exc c n ρ' => .exc c n ρ'
  | _ => .stuck
theorem ds_par {i j : Nat} {x y : Str} {px py pt : Pos} {kt k2 : Nat} {pt2 : Pos} {l : MLv} (hc : X.calm = true) (hN : X.N.Nodup) (hi : X.N[i]? = some x) (hj : X.N[j]? = some y) (hij : i ≠ j)
    (hx : X.env.scope.names.lookup x = some .local) (hy : X.env.scope.names.lookup y = some .local) (ha : DML X B [a, b] l)
    (hw : swappedStores [.Tuple [.Name x px, .Name y py] kt pt] (.Tuple [a, b] k2 pt2) X.env = pure (some [x, y]) := by rfl)
    (hs : swapsWithSole [.Tuple [.Name x px, .Name y py] kt pt] (.Tuple [a, b] k2 pt2) pos.line X.env = pure false := by rfl) :
    DS X B (.Assign [.Tuple [.Name x px, .Name y py] kt pt] (.Tuple [a, b] k2 pt2) pos) (sPar i j l) := PSi (ps_par hc hN hi hj hij hx hy ha hw hs) fun D σ H ⟨ρ, fr, fvs, r, q⟩ => by
  refine ⟨ρ, fr, fvs, r, ?_⟩
  unfold sPar at q
  cases hl : l ρ with
  | exc c n ρ' => rw [hl] at q; exact fun cls d H' r' x => q cls d σ H' r' x
  | stuck => rw [hl] at q; exact q.elim
  | vals ds ρ' =>
    rw [hl] at q
    intro vs H' r'
    have ln : ds.length = vs.length := by
      have a := r'.lens
      have b := r.lens
      simp only [List.length_append] at a
      omega
    match ds, vs, ln with
    | [d, e], [v, u], _ => exact ⟨v, u, rfl, q _ _ ((r'.put i).put j)⟩
    | [], [], _ => exact q.elim
    | [_], [_], _ => exact q.elim
    | _ :: _ :: _ :: _, _ :: _ :: _ :: _, _ => exact q.elim

def clsAddr (mg : Str → Option Value) (c : Str) : Addr := match mg c with
  | some (.ref a) => a
  | _ => 0
def WayAt (P : Program) (K : PySem.W.Frag) (mg : Str → Option Value) (c : Str) : Prop := ∃ fI D cc, PySem.WayX.WayTxt P K mg c (clsAddr mg c) fI D cc
theorem WayAt.mk {P : Program} {K : PySem.W.Frag} {mg : Str → Option Value} {c : Str} {C fI D cc : Addr} (T : PySem.WayX.WayTxt P K mg c C fI D cc) : WayAt P K mg c := by
  have : clsAddr mg c = C := by unfold clsAddr; rw [T.gC]
  exact ⟨fI, D, cc, by rw [this]; exact T⟩
def TblOk (K : PySem.W.Frag) (mg : Str → Option Value) (tbl : List (Str × Option Nat)) (cls : List Str) : Prop := ∀ c r, tbl.lookup c = some r → ∃ C, WayCls K mg c C ∧ catchOk K C (cls.map fun c => .ref (clsAddr mg c)) r
theorem ds_raiseO {k : Nat} {f : Ev} {nC : Str} {p pos2 : Pos} (dx : Dx X B.L.W (k + 1)) (hL : B.L = lt X B.L.W) (T : WayAt X.prog X.K X.mg nC) (ha : PE X a (tE B.L rd f)) (hg : Gl X nC) (hd : (nC == ("__debug__" : Str)) = false := by decide)
    (he : starEach (a :: []) X.env = (false, eval a X.env) :: starEach [] X.env := by rfl) (hpl : (backTo pos (starEach [] X.env)).any (·.1) = false := by rfl) :
    DS X B (.Raise (some (.Call (.Name nC p) [a] [] pos)) none pos2) (sRaise nC f) := by
  obtain ⟨fI, Dw, cc, T⟩ := T
  exact ds_raise dx hL T ha hg hd he hpl
theorem names_way {c : Str} (T : WayAt X.prog X.K X.mg c) (hg : Gl X c) (hd : (c == ("__debug__" : Str)) = false := by decide) : Names X c (.ref (clsAddr X.mg c)) := by
  obtain ⟨fI, Dw, cc, T⟩ := T
  exact ⟨hg, hd, .inl T.gC⟩
theorem dx_tr {k : Nat} {W' : WX} {pn : List (Addr × Obj)} {xe : Value → Shared → Prop} (dx : Dx X W k) (tk : Takes (X.tr pn xe) W') : Dx (X.tr pn xe) W' k := ⟨tk, dx.calm, dx.nd, dx.gd, dx.rm⟩
end
end DL

set_option Elab.async false
set_option linter.all false
set_option maxRecDepth 100000
set_option maxHeartbeats 1000000
namespace DL
open PySem PySem.Spec L2
open PyProof.Rows hiding St
section
variable {P : Program} {K : PySem.W.Frag} {mg : Str → Option Value} {h : Heap}
theorem DefAt.of (X : K.In h) (G : h.Ns mainGlobals mg) {x : Str} {st : Stmt} {ps : List Str} {f : Addr} {oc : Value} {od an : Option Addr} {osl : Array (Option Value)} {kV doc pm cdv ct : Value}
    (a : PySem.W.nsIn K mainGlobals x = some (some (.ref f))) (l : K.lookup f = some ⟨oc, od, .func (PySem.W.fnOf x x (defArgs st) (defBody st) (defScope st) .none kV doc pm an cdv ct), osl⟩)
    (c : PySem.W.codeIn K cdv x = true) (k : PySem.W.keepIn K (.ref f) = true)
    (b : ∀ (kV doc pm : Value) (an : Option Addr) (cdv ct : Value) (us : List Value), us.length = ps.length → bindArgs (PySem.W.fnOf x x (defArgs st) (defBody st) (defScope st) .none kV doc pm an cdv ct) ⟨us, []⟩ = pure (ps.zip us)) : DefAt K mg x st ps :=
  ⟨f, _, fun_mk l c k, PySem.W.mg_of X G a, (fun_mk l c k).binds b⟩
theorem WayAt.of (X : K.In h) (G : h.Ns mainGlobals mg) {c : Str} {C fI D cc cda : Addr} {nm q : Str} {N : Addr} {bs bm : List Value} {sn : List Str} {sub : List Value} {ab : Bool} {col : Option Bool} {dd : Option Addr} {k0 k1 k2 k3 k5 : Option Value}
    {oc doc pm ct : Value} {od an : Option Addr} {osl : Array (Option Value)} {p1 p2 q1 q2 q3 q4 q5 q6 q7 q8 q9 q10 : Pos} {cl : Value} {cld : Option Addr} {csl : Array (Option Value)} {ccl : Value} {cdd : Option Addr} {vs : Array Value} {ccs : Array (Option Value)} {file : Str} {tf : Tok}
    (aC : PySem.W.nsIn K mainGlobals c = some (some (.ref C))) (xL : K.lookup C = some (excClassObj nm q C N bs bm true sn sub ab col dd k0 k1 k2 k3 k5 "ValueError.__new__")) (bmOk : HandSPX.refsVE bm = true)
    (sa : PySem.W.findIn K (.ref C) "__setattr__" = some (some (.builtin "object.__setattr__"))) (ga : PySem.W.findIn K (.ref C) "__getattribute__" = some (some (.builtin "BaseException.__getattribute__"))) (gg : PySem.W.findIn K (.ref C) "__getattr__" = some none) (noN : PySem.W.findIn K (.ref C) "at" = some none)
    (iC : PySem.W.findIn K (.ref C) "__init__" = some (some (.ref fI))) (tC : PySem.W.typeIn K (.ref fI) = some (.type "function")) (kC : PySem.W.keepIn K (.ref C) = true) (exC : PySem.W.subIn K (.ref C) (.type "BaseException") = some true) (tyC : PySem.W.typeIn K (.ref C) = some (.type "type")) (hdC : PySem.W.hasDictIn K C = true)
    (l : K.lookup fI = some ⟨oc, od, .func (PySem.W.ksFn "__init__" "WayError.__init__" (PySem.WayX.iA p1 p2) (PySem.WayX.iB q1 q2 q3 q4 q5 q6 q7 q8 q9 q10) PySem.WayX.iS .none .none doc pm an (.ref cda) ct cc), osl⟩) (hc : PySem.W.codeIn K (.ref cda) "WayError.__init__" = true)
    (cell : K.lookup cc = some ⟨cl, cld, .cell (some (.ref D)), csl⟩) (code : K.lookup cda = some ⟨ccl, cdd, .fields vs, ccs⟩) (hvs : vs[2]? = some (.str file tf)) (hfile : ((P.main.file : Str) == file) = true) (hline : (q3.endLine == q5.line) = true)
    (sup : PySem.W.ks_superIn K C D "__init__" = some (some (.builtin "ValueError.__init__"))) (subV : PySem.W.subIn K (.ref C) (.type "ValueError") = some true) (mroD : PySem.W.mroIn K C (.ref D) = some true) (clD : PySem.W.isClsIn K D = true)
    (opq : PySem.W.nsIn K cStatics "thirdparty.any" = some none) (noS : PySem.W.nsIn K mainGlobals "super" = some none) (top : (P.main.scope.names.lookup ("super" : Str)).isSome = false) : WayAt P K mg c :=
  .mk (C := C) (fI := fI) (D := D) (cc := cc) ⟨PySem.W.mg_of X G aC, ⟨nm, q, N, bs, bm, sn, sub, ab, col, dd, k0, k1, k2, k3, k5, xL, bmOk⟩, sa, ga, gg, noN, iC, tC, kC, exC, tyC, hdC, sup, subV, mroD, clD, opq, PySem.W.mg_none_of X G noS, top,
    ⟨oc, od, doc, pm, an, cda, ct, osl, p1, p2, q1, q2, q3, q4, q5, q6, q7, q8, q9, q10, cl, cld, csl, ccl, cdd, vs, ccs, file, tf, hline, l, hc, cell, code, hvs, hfile⟩⟩
theorem clsAddr_of (X : K.In h) (G : h.Ns mainGlobals mg) {c : Str} {C : Addr} (aC : PySem.W.nsIn K mainGlobals c = some (some (.ref C))) : clsAddr mg c = C := by
  unfold clsAddr
  rw [PySem.W.mg_of X G aC]
theorem exm_of (X : K.In h) (G : h.Ns mainGlobals mg) {c c' : Str} {C C' : Addr} {b : Bool} (aC : PySem.W.nsIn K mainGlobals c = some (some (.ref C))) (aC' : PySem.W.nsIn K mainGlobals c' = some (some (.ref C'))) (h1 : PySem.W.subIn K (.ref C') (.type "BaseException") = some true) (hd : PySem.W.hasDictIn K C' = true)
    (ht : PySem.W.typeIn K (.ref C') = some (.type "type")) (h4 : PySem.W.subIn K (.ref C) (.ref C') = some b) : PySem.W.exmOne K (.ref (clsAddr mg c)) (.ref (clsAddr mg c')) = some b := by
  rw [clsAddr_of X G aC, clsAddr_of X G aC']
  exact PySem.W.exm_ref h1 hd ht h4
theorem WayAt.cls {c : Str} (T : WayAt P K mg c) : WayCls K mg c (clsAddr mg c) := by
  obtain ⟨fI, D, cc, T⟩ := T
  exact ⟨T.gC, ⟨T.ga, T.gg, T.exC, T.hdC⟩, T.noN⟩
theorem TblOk.nil {cls : List Str} : TblOk K mg [] cls := fun c r h => by cases h
theorem TblOk.cons {c : Str} {r : Option Nat} {tbl : List (Str × Option Nat)} {cls : List Str} (T : WayAt P K mg c) (hk : catchOk K (clsAddr mg c) (cls.map fun c => .ref (clsAddr mg c)) r) (t : TblOk K mg tbl cls) : TblOk K mg ((c, r) :: tbl) cls := fun c' r' h => by
  rw [List.lookup_cons] at h
  split at h
  · rename_i e
    cases h
    have : c' = c := by simpa using e
    subst this
    exact ⟨_, T.cls, hk⟩
  · exact t c' r' h
end
end DL

set_option Elab.async false
set_option linter.all false
set_option maxRecDepth 100000
set_option maxHeartbeats 2000000
namespace DL
open PySem PySem.Spec L2
open PyProof.Rows hiding St

theorem sSeq_nx {f g : Sv} {ρ ρ' : Env} (h : f ρ = .nx ρ') : sSeq f g ρ = g ρ' := by unfold sSeq; rw [h]
theorem sSeq_ret {f g : Sv} {ρ : Env} {d : D} (h : f ρ = .ret d) : sSeq f g ρ = .ret d := by unfold sSeq; rw [h]
theorem sSeq_exc {f g : Sv} {ρ ρ' : Env} {c : Str} {n : Int} (h : f ρ = .exc c n ρ') : sSeq f g ρ = .exc c n ρ' := by unfold sSeq; rw [h]
theorem runF_eq {N n : Nat} {F : Sv} {ds : List D} (h : ds.length = n) : runF N n F ds = (match F (ds.map some ++ List.replicate (N - n) none) with
  | .ret d => .val d
  | .nx _ => .val .non
  | .exc c k _ => .exc c k
  | _ => .stuck) := by unfold runF; rw [if_pos h] <;> rfl
theorem gI2_val {C : Int → Int → Prop} [∀ i j, Decidable (C i j)] {f : Int → Int → D} {i j : Int} (h : C i j) : gI2 C f [.int i, .int j] = .val (f i j) := by
  unfold gI2; simp [h]
theorem log2_lt {n k : Nat} (h : n < 2 ^ k) (hk : 0 < k) : n.log2 < k := by
  by_cases h0 : n = 0
  · subst h0; simpa using hk
  · exact (Nat.log2_lt h0).mpr h
theorem mulOk_of {i j : Int} {a b : Nat} (hi : i.natAbs < 2 ^ a) (hj : j.natAbs < 2 ^ b) (h : a + b ≤ 1000000) (ha : 0 < a) (hb : 0 < b) : MulOk i j := by
  unfold MulOk
  have := log2_lt hi ha
  have := log2_lt hj hb
  omega
theorem divOk_of {i j : Int} {b : Nat} (h0 : j ≠ 0) (hj : j.natAbs < 2 ^ b) (h : b ≤ 9000) (hb : 0 < b) : DivOk i j := by
  refine ⟨h0, ?_⟩
  have := log2_lt hj hb
  omega
end DL

set_option Elab.async false
set_option linter.all false
set_option maxRecDepth 100000
set_option maxHeartbeats 2000000
namespace DL
open PySem PySem.Spec L2
open PyProof.Rows hiding St

def qd (r : Rat) : D := .tup [.int r.num, .int (r.den : Int)]
theorem fz_qd (r : Rat) : (qd r).fz = qd r := by simp [qd, D.fz, fzs]
theorem cln_qd (r : Rat) : (qd r).clean = true := by simp [qd, D.clean, cleans]
theorem qd_inj {a b : Rat} : qd a = qd b ↔ a = b := by
  constructor
  · intro h
    simp only [qd, D.tup.injEq, List.cons.injEq, D.int.injEq, and_true] at h
    exact Rat.ext h.1 (by omega)
  · rintro rfl; rfl
theorem gcd_fd (n : Int) (d : Nat) (hd : d ≠ 0) : n.fdiv ((Nat.gcd n.natAbs d : Nat) : Int) = (Rat.divInt n d).num ∧ (d : Int).fdiv ((Nat.gcd n.natAbs d : Nat) : Int) = ((Rat.divInt n d).den : Int) := by
  have hg : 0 < Nat.gcd n.natAbs d := Nat.gcd_pos_of_pos_right _ (Nat.pos_of_ne_zero hd)
  rw [Rat.num_divInt, Rat.den_divInt, if_neg (by omega)]
  have e : Int.gcd (d : Int) n = Nat.gcd n.natAbs d := by rw [Int.gcd_comm]; simp [Int.gcd]
  rw [e, Int.sign_eq_one_of_pos (by omega), Int.one_mul, Int.fdiv_eq_ediv_of_nonneg _ (by omega), Int.fdiv_eq_ediv_of_nonneg _ (by omega)]
  refine ⟨rfl, ?_⟩
  simp
theorem on_den {r : Rat} {N : Nat} (hN : N ≠ 0) {k : Int} (h : r * (N : Rat) = (k : Rat)) : r.den ∣ N := by
  have : r = Rat.divInt k N := by
    rw [Rat.divInt_eq_div, Rat.intCast_natCast]
    have : (N : Rat) ≠ 0 := by exact_mod_cast hN
    grind
  rw [this, Rat.den_divInt, if_neg (by omega)]
  simp only [Int.natAbs_natCast]
  exact Nat.div_dvd_of_dvd (Int.natCast_dvd_natCast.mp (Int.gcd_dvd_left ..))
theorem num_le {r : Rat} {M : Nat} (h : r ≤ (M : Rat)) : r.num ≤ M * r.den := by
  have := (Rat.le_iff _ _).mp h
  simpa using this
theorem le_num {r : Rat} {M : Nat} (h : -(M : Rat) ≤ r) : -(M * r.den : Int) ≤ r.num := by
  have := (Rat.le_iff _ _).mp h
  simp at this
  rw [← Int.neg_mul]
  exact this

/-- small: its denominator goes into N, it lies within M of 0 -/
structure Sm (N M : Nat) (r : Rat) : Prop where
  on : ∃ k : Int, r * (N : Rat) = (k : Rat)
  le : r ≤ (M : Rat)
  ge : -(M : Rat) ≤ r
theorem Sm.den {N M : Nat} {r : Rat} (h : Sm N M r) (hN : N ≠ 0) : r.den ≤ N := by
  obtain ⟨k, hk⟩ := h.on
  exact Nat.le_of_dvd (Nat.pos_of_ne_zero hN) (on_den hN hk)
theorem Sm.num {N M : Nat} {r : Rat} (h : Sm N M r) (hN : N ≠ 0) : r.num.natAbs ≤ M * N := by
  have a := num_le h.le
  have b := le_num h.ge
  have c : M * r.den ≤ M * N := Nat.mul_le_mul_left _ (h.den hN)
  have d : ((M * r.den : Nat) : Int) = (M : Int) * (r.den : Int) := by simp
  omega
theorem Sm.add {N M M' : Nat} {a b : Rat} (h : Sm N M a) (h' : Sm N M' b) : Sm N (M + M') (a + b) := by
  obtain ⟨⟨k, hk⟩, h1, h2⟩ := h
  obtain ⟨⟨j, hj⟩, h3, h4⟩ := h'
  refine ⟨⟨k + j, ?_⟩, ?_, ?_⟩
  · rw [Rat.intCast_add]; grind
  · rw [Rat.natCast_add]; grind
  · rw [Rat.natCast_add]; grind
theorem Sm.sub {N M M' : Nat} {a b : Rat} (h : Sm N M a) (h' : Sm N M' b) : Sm N (M + M') (a - b) := by
  obtain ⟨⟨k, hk⟩, h1, h2⟩ := h
  obtain ⟨⟨j, hj⟩, h3, h4⟩ := h'
  refine ⟨⟨k - j, ?_⟩, ?_, ?_⟩
  · rw [Rat.intCast_sub]; grind
  · rw [Rat.natCast_add]; grind
  · rw [Rat.natCast_add]; grind
/-- small enough for any one step -/
structure Sz (r : Rat) : Prop where
  num : r.num.natAbs < 2 ^ 400
  den : r.den < 2 ^ 400
theorem Sm.sz {N M : Nat} {r : Rat} (h : Sm N M r) (hN : N ≠ 0) (h1 : M * N < 2 ^ 400) (h2 : N < 2 ^ 400) : Sz r := ⟨Nat.lt_of_le_of_lt (h.num hN) h1, Nat.lt_of_le_of_lt (h.den hN) h2⟩

theorem natAbs_mul_lt {i j : Int} {a b : Nat} (h : i.natAbs < 2 ^ a) (h' : j.natAbs < 2 ^ b) : (i * j).natAbs < 2 ^ (a + b) := by
  rw [Int.natAbs_mul, Nat.pow_add]
  exact Nat.mul_lt_mul_of_lt_of_le h (Nat.le_of_lt h') (Nat.two_pow_pos b)
theorem natAbs_add_lt {i j : Int} {a : Nat} (h : i.natAbs < 2 ^ a) (h' : j.natAbs < 2 ^ a) : (i + j).natAbs < 2 ^ (a + 1) := by
  have := Int.natAbs_add_le i j
  rw [Nat.pow_succ]; omega
theorem natAbs_sub_lt {i j : Int} {a : Nat} (h : i.natAbs < 2 ^ a) (h' : j.natAbs < 2 ^ a) : (i - j).natAbs < 2 ^ (a + 1) := by
  have := Int.natAbs_sub_le i j
  rw [Nat.pow_succ]; omega
theorem gMul_val {i j : Int} {a b : Nat} (hi : i.natAbs < 2 ^ a) (hj : j.natAbs < 2 ^ b) (h : a + b ≤ 1000000) (ha : 0 < a) (hb : 0 < b) : gMul [.int i, .int j] = .val (.int (i * j)) := gI2_val (mulOk_of hi hj h ha hb)
theorem gDiv_val {i j : Int} {b : Nat} (h0 : j ≠ 0) (hj : j.natAbs < 2 ^ b) (h : b ≤ 9000) (hb : 0 < b) : gDiv [.int i, .int j] = .val (.int (i.fdiv j)) := gI2_val (divOk_of h0 hj h hb)
theorem gMod_val {i j : Int} (h0 : j ≠ 0) : gMod [.int i, .int j] = .val (.int (i.fmod j)) := gI2_val h0
theorem gSub_val {i j : Int} : gSub [.int i, .int j] = .val (.int (i - j)) := gI2_val trivial
theorem gAdd_val {i j : Int} : gAdd [.int i, .int j] = .val (.int (i + j)) := rfl
theorem gLt_val {i j : Int} : gLt [.int i, .int j] = .val (.bl (decide (i < j))) := gI2_val trivial
theorem gGt_val {i j : Int} : gGt [.int i, .int j] = .val (.bl (decide (j < i))) := gI2_val trivial
theorem gLe_val {i j : Int} : gLe [.int i, .int j] = .val (.bl (decide (i ≤ j))) := gI2_val trivial
theorem gGe_val {i j : Int} : gGe [.int i, .int j] = .val (.bl (decide (j ≤ i))) := gI2_val trivial

mutual
/-- ints, None, tuples and lists of such -/
def D.pl : D → Bool
  | .int _ => true | .non => true | .tup xs => pls xs | .lst _ xs => pls xs | _ => false
def pls : List D → Bool
  | [] => true
  | d :: r => d.pl && pls r
end
mutual
def D.dp : D → Nat
  | .tup xs => dps xs + 1 | .lst _ xs => dps xs + 1 | _ => 0
def dps : List D → Nat
  | [] => 0
  | d :: r => max d.dp (dps r)
end
mutual
theorem pl_py : ∀ d : D, d.pl = true → ∃ p, toPy d = some p ∧ p.canLay0 = true ∧ p.depth = d.dp
  | .int i, _ => ⟨.int i, by simp [toPy], by simp [PyData.canLay0], by simp [PyData.depth, D.dp]⟩
  | .non, _ => ⟨.none, by simp [toPy], by simp [PyData.canLay0], by simp [PyData.depth, D.dp]⟩
  | .tup xs, h => by
    obtain ⟨ps, e, a, b⟩ := pls_py xs (by simpa [D.pl] using h)
    exact ⟨.tuple ps, by simp [toPy, e], by simpa [PyData.canLay0] using a, by simp [PyData.depth, D.dp, b]⟩
  | .lst _ xs, h => by
    obtain ⟨ps, e, a, b⟩ := pls_py xs (by simpa [D.pl] using h)
    exact ⟨.list ps, by simp [toPy, e], by simpa [PyData.canLay0] using a, by simp [PyData.depth, D.dp, b]⟩
  | .bl _, h => by simp [D.pl] at h
  | .str _, h => by simp [D.pl] at h
  | .dic _ _, h => by simp [D.pl] at h
  | .set _, h => by simp [D.pl] at h
  | .scr _, h => by simp [D.pl] at h
  | .pin _ _ _, h => by simp [D.pl] at h
theorem pls_py : ∀ xs : List D, pls xs = true → ∃ ps, toPys xs = some ps ∧ PyData.canLayAll0 ps = true ∧ PyData.depthAll ps = dps xs
  | [], _ => ⟨[], by simp [toPys], by simp [PyData.canLayAll0], by simp [PyData.depthAll, dps]⟩
  | d :: r, h => by
    simp only [pls, Bool.and_eq_true] at h
    obtain ⟨p, e, a, b⟩ := pl_py d h.1
    obtain ⟨ps, e', a', b'⟩ := pls_py r h.2
    exact ⟨p :: ps, by simp [toPys, e, e'], by simp [PyData.canLayAll0, a, a'], by simp [PyData.depthAll, dps, b, b']⟩
end
theorem okD_pl {d : D} (h : d.pl = true) (hd : d.dp ≤ 64) : okD d = true := by
  obtain ⟨p, e, a, b⟩ := pl_py d h
  unfold okD
  rw [e]
  simp [SeqAt.shaped, a, b, hd]
mutual
theorem eqv_pl : ∀ (d e : D) (p q : PyData), d.pl = true → e.pl = true → toPy d = some p → toPy e = some q → (PyData.eqv p q = true ↔ d.fz = e.fz)
  | .int i, e, p, q, _, h2, h3, h4 => by
    simp only [toPy, Option.some.injEq] at h3; subst h3
    cases e <;> simp [D.pl] at h2 <;> simp [toPy] at h4 <;> (try subst h4) <;> (try (obtain ⟨ps, _, rfl⟩ := h4)) <;> simp [PyData.eqv, D.fz]
  | .non, e, p, q, _, h2, h3, h4 => by
    simp only [toPy, Option.some.injEq] at h3; subst h3
    cases e <;> simp [D.pl] at h2 <;> simp [toPy] at h4 <;> (try subst h4) <;> (try (obtain ⟨ps, _, rfl⟩ := h4)) <;> simp [PyData.eqv, D.fz]
  | .tup xs, e, p, q, h1, h2, h3, h4 => by
    simp only [toPy, Option.map_eq_some_iff] at h3
    obtain ⟨ps, e1, rfl⟩ := h3
    cases e with
    | tup ys =>
      simp only [toPy, Option.map_eq_some_iff] at h4
      obtain ⟨qs, e2, rfl⟩ := h4
      simp only [PyData.eqv, D.fz, D.tup.injEq]
      exact eqvs_pl xs ys ps qs (by simpa [D.pl] using h1) (by simpa [D.pl] using h2) e1 e2
    | _ => simp [D.pl] at h2 <;> simp [toPy] at h4 <;> (try subst h4) <;> (try (obtain ⟨ps, _, rfl⟩ := h4)) <;> simp [PyData.eqv, D.fz]
  | .lst _ xs, e, p, q, h1, h2, h3, h4 => by
    simp only [toPy, Option.map_eq_some_iff] at h3
    obtain ⟨ps, e1, rfl⟩ := h3
    cases e with
    | lst o ys =>
      simp only [toPy, Option.map_eq_some_iff] at h4
      obtain ⟨qs, e2, rfl⟩ := h4
      simp only [PyData.eqv, D.fz, D.lst.injEq, true_and]
      exact eqvs_pl xs ys ps qs (by simpa [D.pl] using h1) (by simpa [D.pl] using h2) e1 e2
    | _ => simp [D.pl] at h2 <;> simp [toPy] at h4 <;> (try subst h4) <;> (try (obtain ⟨ps, _, rfl⟩ := h4)) <;> simp [PyData.eqv, D.fz]
  | .bl _, _, _, _, h, _, _, _ => by simp [D.pl] at h
  | .str _, _, _, _, h, _, _, _ => by simp [D.pl] at h
  | .dic _ _, _, _, _, h, _, _, _ => by simp [D.pl] at h
  | .set _, _, _, _, h, _, _, _ => by simp [D.pl] at h
  | .scr _, _, _, _, h, _, _, _ => by simp [D.pl] at h
  | .pin _ _ _, _, _, _, h, _, _, _ => by simp [D.pl] at h
theorem eqvs_pl : ∀ (xs ys : List D) (ps qs : List PyData), pls xs = true → pls ys = true → toPys xs = some ps → toPys ys = some qs → (PyData.eqvAll ps qs = true ↔ fzs xs = fzs ys)
  | [], ys, ps, qs, _, h2, h3, h4 => by
    simp only [toPys, Option.some.injEq] at h3; subst h3
    cases ys with
    | nil => simp only [toPys, Option.some.injEq] at h4; subst h4; simp [PyData.eqvAll, fzs]
    | cons y r =>
      simp only [toPys] at h4
      split at h4
      · simp only [Option.some.injEq] at h4; subst h4; simp [PyData.eqvAll, fzs]
      · cases h4
  | x :: xs, ys, ps, qs, h1, h2, h3, h4 => by
    simp only [pls, Bool.and_eq_true] at h1
    simp only [toPys] at h3
    split at h3
    · rename_i p ps' e1 e2
      simp only [Option.some.injEq] at h3; subst h3
      cases ys with
      | nil => simp only [toPys, Option.some.injEq] at h4; subst h4; simp [PyData.eqvAll, fzs]
      | cons y r =>
        simp only [pls, Bool.and_eq_true] at h2
        simp only [toPys] at h4
        split at h4
        · rename_i q qs' e3 e4
          simp only [Option.some.injEq] at h4; subst h4
          simp only [PyData.eqvAll, fzs, Bool.and_eq_true, List.cons.injEq]
          rw [eqv_pl x y p q h1.1 h2.1 e1 e3, eqvs_pl xs r ps' qs' h1.2 h2.2 e2 e4]
        · cases h4
    · cases h3
end
open Classical in
theorem gEq_pl {d e : D} (h1 : d.pl = true) (h2 : e.pl = true) (h3 : d.dp ≤ 64) (h4 : e.dp ≤ 64) : gEq [d, e] = .val (.bl (decide (d.fz = e.fz))) := by
  have a := okD_pl h1 h3
  have b := okD_pl h2 h4
  obtain ⟨p, e1, _⟩ := pl_py d h1
  obtain ⟨q, e2, _⟩ := pl_py e h2
  have c := eqv_pl d e p q h1 h2 e1 e2
  have hs : gEq [d, e] = if (okD d && okD e) = true then .val (.bl (dEq d e)) else .stuck := by
    unfold gEq
    split
    · rename_i z; simp only [List.cons.injEq, and_true] at z; rw [z.1] at h1; simp [D.pl] at h1
    · rename_i z; simp only [List.cons.injEq, and_true] at z; rw [z.1, z.2]
    · rename_i z; exact absurd rfl (z d e)
  rw [hs, a, b]
  simp only [Bool.and_self, if_true]
  unfold dEq
  rw [e1, e2]
  simp only
  congr 2
  by_cases hh : d.fz = e.fz
  · rw [decide_eq_true hh]; exact c.mpr hh
  · rw [decide_eq_false hh]
    cases hv : PyData.eqv p q with
    | false => rfl
    | true => exact absurd (c.mp hv) hh
open Classical in
theorem gNe_pl {d e : D} (h1 : d.pl = true) (h2 : e.pl = true) (h3 : d.dp ≤ 64) (h4 : e.dp ≤ 64) : gNe [d, e] = .val (.bl (!decide (d.fz = e.fz))) := by
  have g := gEq_pl h1 h2 h3 h4
  have hs : gNe [d, e] = if (okD d && okD e) = true then .val (.bl (!dEq d e)) else .stuck := by
    unfold gNe
    split
    · rename_i z; simp only [List.cons.injEq, and_true] at z; rw [z.1] at h1; simp [D.pl] at h1
    · rename_i z; simp only [List.cons.injEq, and_true] at z; rw [z.1, z.2]
    · rename_i z; exact absurd rfl (z d e)
  have hs' : gEq [d, e] = if (okD d && okD e) = true then .val (.bl (dEq d e)) else .stuck := by
    unfold gEq
    split
    · rename_i z; simp only [List.cons.injEq, and_true] at z; rw [z.1] at h1; simp [D.pl] at h1
    · rename_i z; simp only [List.cons.injEq, and_true] at z; rw [z.1, z.2]
    · rename_i z; exact absurd rfl (z d e)
  rw [hs'] at g
  rw [hs]
  split at g
  · rename_i t
    rw [if_pos t]
    simp only [ER.val.injEq, D.bl.injEq] at g
    rw [g]
  · cases g
theorem gEq_int {i j : Int} : gEq [.int i, .int j] = .val (.bl (decide (i = j))) := by
  rw [gEq_pl rfl rfl (by simp [D.dp]) (by simp [D.dp])]
  simp [D.fz]
theorem gNe_int {i j : Int} : gNe [.int i, .int j] = .val (.bl (!decide (i = j))) := by
  rw [gNe_pl rfl rfl (by simp [D.dp]) (by simp [D.dp])]
  simp [D.fz]
end DL

set_option Elab.async false
set_option linter.all false
set_option maxRecDepth 100000
set_option maxHeartbeats 2000000
namespace DL
open PySem PySem.Spec L2
open PyProof.Rows hiding St
mutual
def D.short : D → Prop
  | .int i => i.natAbs < 10 ^ 12 | .non => True | .tup xs => shorts xs | .lst _ xs => shorts xs | _ => False
def shorts : List D → Prop
  | [] => True
  | d :: r => d.short ∧ shorts r
end
mutual
def D.blk : D → Nat
  | .tup xs => blks xs | .lst _ xs => blks xs | _ => 1
def blks : List D → Nat
  | [] => 1
  | d :: r => d.blk + 1 + blks r
end
theorem log2_1920 {i : Int} (h : i.natAbs < 10 ^ 12) : i.natAbs.log2 < 1920 :=
  log2_lt (Nat.lt_of_lt_of_le h (by decide +kernel)) (by decide)
mutual
theorem sh_py : ∀ d : D, d.short → ∃ p, toPy d = some p ∧ p.showable = true ∧ p.leavesShort 13 = true ∧ p.depth = d.dp ∧ p.bulk ≤ d.blk
  | .int i, h => ⟨.int i, by simp [toPy], by simp only [PyData.showable, decide_eq_true_eq]; exact log2_1920 h, by simp only [PyData.leavesShort, decide_eq_true_eq]; exact PyData.shown_int_le h, by simp [PyData.depth, D.dp], by simp [PyData.bulk, D.blk]⟩
  | .non, _ => ⟨.none, by simp [toPy], by simp [PyData.showable], by simp [PyData.leavesShort], by simp [PyData.depth, D.dp], by simp [PyData.bulk, D.blk]⟩
  | .tup xs, h => by
    obtain ⟨ps, e, a, b, c, d⟩ := shs_py xs (by simpa [D.short] using h)
    exact ⟨.tuple ps, by simp [toPy, e], by simpa [PyData.showable] using a, by simpa [PyData.leavesShort] using b, by simp [PyData.depth, D.dp, c], by simpa [PyData.bulk, D.blk] using d⟩
  | .lst _ xs, h => by
    obtain ⟨ps, e, a, b, c, d⟩ := shs_py xs (by simpa [D.short] using h)
    exact ⟨.list ps, by simp [toPy, e], by simpa [PyData.showable] using a, by simpa [PyData.leavesShort] using b, by simp [PyData.depth, D.dp, c], by simpa [PyData.bulk, D.blk] using d⟩
  | .bl _, h => by simp [D.short] at h
  | .str _, h => by simp [D.short] at h
  | .dic _ _, h => by simp [D.short] at h
  | .set _, h => by simp [D.short] at h
  | .scr _, h => by simp [D.short] at h
  | .pin _ _ _, h => by simp [D.short] at h
theorem shs_py : ∀ xs : List D, shorts xs → ∃ ps, toPys xs = some ps ∧ PyData.showableAll ps = true ∧ PyData.leavesShortAll 13 ps = true ∧ PyData.depthAll ps = dps xs ∧ PyData.bulkAll ps ≤ blks xs
  | [], _ => ⟨[], by simp [toPys], by simp [PyData.showableAll], by simp [PyData.leavesShortAll], by simp [PyData.depthAll, dps], by simp [PyData.bulkAll, blks]⟩
  | d :: r, h => by
    simp only [shorts] at h
    obtain ⟨p, e, a, b, c, f⟩ := sh_py d h.1
    obtain ⟨ps, e', a', b', c', f'⟩ := shs_py r h.2
    exact ⟨p :: ps, by simp [toPys, e, e'], by simp [PyData.showableAll, a, a'], by simp [PyData.leavesShortAll, b, b'], by simp [PyData.depthAll, dps, c, c'], by simp only [PyData.bulkAll, blks]; omega⟩
end
theorem okR_sh {d : D} (h : d.short) (h1 : d.dp ≤ 60) (h2 : d.blk ≤ 2 ^ 20) : okR d = true := by
  obtain ⟨p, e, a, b, c, f⟩ := sh_py d h
  unfold okR
  rw [e]
  simp only [Bool.and_eq_true, decide_eq_true_eq]
  exact ⟨⟨a, by omega⟩, PyData.shown_fits_bulk (by decide) (by decide) b (Nat.le_trans f h2)⟩
theorem gRepr_tup {xs : List D} (h : (D.tup xs).short) (h1 : (D.tup xs).dp ≤ 60) (h2 : (D.tup xs).blk ≤ 2 ^ 20) : gRepr [.tup xs] = .val (.str (dRepr (.tup xs))) := by
  show (if okR (.tup xs) = true then ER.val (.str (dRepr (.tup xs))) else .stuck) = _
  rw [if_pos (okR_sh h h1 h2)]
theorem gRepr_non : gRepr [.non] = .val (.str "None") := rfl
theorem gRepr_bl {b : Bool} : gRepr [.bl b] = .val (.str (if b then "True" else "False")) := rfl
theorem gNe_str {x y : Str} : gNe [.str x, .str y] = .val (.bl (!decide (x = y))) := rfl
theorem gEq_str {x y : Str} : gEq [.str x, .str y] = .val (.bl (decide (x = y))) := rfl
theorem sm_short {N M : Nat} {r : Rat} (h : Sm N M r) (hN : N ≠ 0) (h1 : M * N < 10 ^ 12) (h2 : N < 10 ^ 12) : (qd r).short := by
  have a := h.num hN
  have b := h.den hN
  simp only [qd, D.short, shorts, and_true]
  exact ⟨Nat.lt_of_le_of_lt a h1, Nat.lt_of_le_of_lt (by simpa using b) h2⟩
theorem qd_pl (r : Rat) : (qd r).pl = true := rfl
theorem qd_dp (r : Rat) : (qd r).dp = 1 := by simp [qd, D.dp, dps]
theorem gEq_qd {a b : Rat} : gEq [qd a, qd b] = .val (.bl (decide (a = b))) := by
  rw [gEq_pl (qd_pl a) (qd_pl b) (by rw [qd_dp]; decide) (by rw [qd_dp]; decide)]
  simp only [fz_qd, qd_inj]
  first | done | rfl | (congr 2)
theorem gNe_qd {a b : Rat} : gNe [qd a, qd b] = .val (.bl (!decide (a = b))) := by
  rw [gNe_pl (qd_pl a) (qd_pl b) (by rw [qd_dp]; decide) (by rw [qd_dp]; decide)]
  simp only [fz_qd, qd_inj]
  first | done | rfl | (congr 3)
end DL
namespace DL
open PySem PySem.Spec L2
theorem le_size {n : Nat} (h : n ≤ 1000) : n ≤ sizeLine := Nat.le_trans h (by decide +kernel)
end DL
namespace DL
open PySem PySem.Spec L2
theorem gIx_tup {xs : List D} {i : Int} : gIx [.tup xs, .int i] = match atI xs i with | some d => .val d | none => .stuck := rfl
theorem gIx_lst {o : Bool} {xs : List D} {i : Int} : gIx [.lst o xs, .int i] = match atI xs i with | some d => .val d | none => .stuck := rfl
theorem gIx_scr {xs : List Int} {i : Int} : gIx [.scr xs, .int i] = match atI xs i with | some d => .val (.int d) | none => .stuck := rfl
theorem gIx_q0 {r : Rat} : gIx [qd r, .int 0] = .val (.int r.num) := rfl
theorem gIx_q1 {r : Rat} : gIx [qd r, .int 1] = .val (.int (r.den : Int)) := rfl
theorem num_neg {r : Rat} : r.num < 0 ↔ r < 0 := by
  have := Rat.num_nonneg (q := r)
  constructor
  · intro h; apply Rat.not_le.mp; intro z; have := this.mpr z; omega
  · intro h; apply Int.not_le.mp; intro z; exact absurd (this.mp z) (Rat.not_le.mpr h)
theorem num_zero {r : Rat} : r.num = 0 ↔ r = 0 := Rat.num_eq_zero
theorem gNe_bl {a b : Bool} : gNe [.bl a, .bl b] = .val (.bl (!(a == b))) := by cases a <;> cases b <;> simp [gNe, okD, toPy, SeqAt.shaped, PyData.canLay0, PyData.depth, dEq, PyData.eqv]
theorem gEq_bl {a b : Bool} : gEq [.bl a, .bl b] = .val (.bl (a == b)) := by cases a <;> cases b <;> simp [gEq, okD, toPy, SeqAt.shaped, PyData.canLay0, PyData.depth, dEq, PyData.eqv]
theorem gIsN_qd {r : Rat} : gIsN [qd r, .non] = .val (.bl false) := rfl
theorem gNotN_qd {r : Rat} : gNotN [qd r, .non] = .val (.bl true) := rfl
end DL
namespace DL
open PySem PySem.Spec L2
theorem gIsN_non : gIsN [.non, .non] = .val (.bl true) := rfl
theorem gIsN_tup {xs : List D} : gIsN [.tup xs, .non] = .val (.bl false) := rfl
theorem gIsN_lst {o : Bool} {xs : List D} : gIsN [.lst o xs, .non] = .val (.bl false) := rfl
theorem gNotN_non : gNotN [.non, .non] = .val (.bl false) := rfl
theorem gNotN_tup {xs : List D} : gNotN [.tup xs, .non] = .val (.bl true) := rfl
theorem gNotN_lst {o : Bool} {xs : List D} : gNotN [.lst o xs, .non] = .val (.bl true) := rfl
end DL
namespace DL
open PySem PySem.Spec L2
theorem lt_size {n : Nat} (h : n < 1000) : n < sizeLine := Nat.lt_of_lt_of_le h (by decide +kernel)
end DL

set_option Elab.async false
set_option linter.all false
set_option maxRecDepth 100000
set_option maxHeartbeats 2000000
namespace DL
open PySem PySem.Spec L2
open PyProof.Rows hiding St

def top (i : Nat) : Stmt := PySem.Challenge.pw_deedroads_k15_whole_ends_of_records.main.body.getD i (.Pass ⟨0, 0, 0, 0⟩)
abbrev s_l_less : Stmt := top 33
abbrev s_l_gcd : Stmt := top 29
abbrev s_l_low : Stmt := top 30
abbrev s_l_plus : Stmt := top 31
abbrev s_l_sum : Stmt := top 35
abbrev s_l_record : Stmt := top 36
abbrev s_l_are_types : Stmt := top 37
abbrev s_l_minus : Stmt := top 34
abbrev s_l_bounds : Stmt := top 41
abbrev s_l_chance : Stmt := top 38
abbrev s_l_draws : Stmt := top 27
abbrev s_l_mix : Stmt := top 28
abbrev s_l_moved : Stmt := top 39
abbrev s_fraction : Stmt := top 7
abbrev s_minus : Stmt := top 9
abbrev s_gains_of : Stmt := top 15
abbrev s_is_fraction : Stmt := top 6
abbrev s_is_less : Stmt := top 11
abbrev s_is_chance : Stmt := top 14
abbrev s_plus : Stmt := top 8
abbrev s_total : Stmt := top 12
abbrev s_check_record : Stmt := top 16
abbrev s_greater : Stmt := top 17
abbrev s_lesser : Stmt := top 18
abbrev s_helped : Stmt := top 19
abbrev s_over : Stmt := top 10
abbrev s_ends_of : Stmt := top 20
abbrev s_ends : Stmt := top 21
abbrev s_l_word : Stmt := top 40
abbrev s_are_types : Stmt := top 24
abbrev s_chance_by : Stmt := top 25
abbrev s_types_with : Stmt := top 22
abbrev s_types_at : Stmt := top 23
abbrev s_law : Stmt := top 42
def tb_l_word_1 : List (Str × Option Nat) := [("BadRecord", some 0), ("Unfit", some 1)]
/-- what the top has left -/
structure Txt (P : Program) (K : PySem.W.Frag) (mg : Str → Option Value) : Prop where
  d_l_less : DefAt K mg "_law_less" s_l_less ["one", "two"]
  d_l_gcd : DefAt K mg "_law_gcd" s_l_gcd ["one", "two"]
  d_l_low : DefAt K mg "_law_low" s_l_low ["number", "by"]
  d_l_plus : DefAt K mg "_law_plus" s_l_plus ["one", "two"]
  d_l_sum : DefAt K mg "_law_sum" s_l_sum ["told"]
  d_l_record : DefAt K mg "_law_record" s_l_record ["told"]
  d_l_are_types : DefAt K mg "_law_are_types" s_l_are_types ["record", "told"]
  d_l_minus : DefAt K mg "_law_minus" s_l_minus ["one", "two"]
  d_l_bounds : DefAt K mg "_law_bounds" s_l_bounds ["record"]
  d_l_chance : DefAt K mg "_law_chance" s_l_chance ["told", "word"]
  d_l_draws : DefAt K mg "_law_draws" s_l_draws ["script"]
  d_l_mix : DefAt K mg "_law_mix" s_l_mix ["draws", "k", "many"]
  d_l_moved : DefAt K mg "_law_moved" s_l_moved ["told", "x", "by"]
  d_fraction : DefAt K mg "fraction" s_fraction ["number", "by"]
  d_minus : DefAt K mg "minus" s_minus ["one", "two"]
  d_gains_of : DefAt K mg "gains_of" s_gains_of ["record"]
  d_is_fraction : DefAt K mg "is_fraction" s_is_fraction ["told"]
  d_is_less : DefAt K mg "is_less" s_is_less ["one", "two"]
  d_is_chance : DefAt K mg "is_chance" s_is_chance ["told"]
  d_plus : DefAt K mg "plus" s_plus ["one", "two"]
  d_total : DefAt K mg "total" s_total ["told"]
  d_check_record : DefAt K mg "check_record" s_check_record ["record"]
  d_greater : DefAt K mg "greater" s_greater ["one", "two"]
  d_lesser : DefAt K mg "lesser" s_lesser ["one", "two"]
  d_helped : DefAt K mg "helped" s_helped ["record"]
  d_over : DefAt K mg "over" s_over ["one", "two"]
  d_ends_of : DefAt K mg "ends_of" s_ends_of ["record", "word"]
  d_ends : DefAt K mg "ends" s_ends ["record", "word"]
  d_l_word : DefAt K mg "_law_word" s_l_word ["record"]
  d_are_types : DefAt K mg "are_types" s_are_types ["record", "told"]
  d_chance_by : DefAt K mg "chance_by" s_chance_by ["told", "word"]
  d_types_with : DefAt K mg "types_with" s_types_with ["record", "zero", "one"]
  d_types_at : DefAt K mg "types_at" s_types_at ["record", "word", "end"]
  d_law : DefAt K mg "law" s_law ["script"]
  n_abs : mg "abs" = none
  n_all : mg "all" = none
  n_enumerate : mg "enumerate" = none
  n_gcd : mg "gcd" = some (.builtin "math.gcd")
  n_int : mg "int" = none
  n_len : mg "len" = none
  n_list : mg "list" = none
  n_min : mg "min" = none
  n_range : mg "range" = none
  n_repr : mg "repr" = none
  n_sum : mg "sum" = none
  c_BadRecord : WayAt P K mg "BadRecord"
  c_Unfit : WayAt P K mg "Unfit"
  tb_l_word_1 : TblOk K mg tb_l_word_1 ["BadRecord", "Unfit"]
section
variable {P : Program} {w : World} {K : PySem.W.Frag} {mg : Str → Option Value} {base : Heap}
def G_l_less : Sv :=
  (sRet (mE [0, 1, 1, 0] (eA gLt (lC (eA gMul (lC (eA gIx (lC (eV 0) (lC (eC (.int 0)) lN))) (lC (eA gIx (lC (eV 1) (lC (eC (.int 1)) lN))) lN))) (lC (eA gMul (lC (eA gIx (lC (eV 1) (lC (eC (.int 0)) lN))) (lC (eA gIx (lC (eV 0) (lC (eC (.int 1)) lN))) lN))) lN)))))
def F_l_less : List D → ER := runF 2 2 G_l_less
theorem sc_l_less : FnScope ["one", "two"] ["one", "two"] (defScope s_l_less) := ⟨rfl, rfl, rfl, by decide +kernel, rfl, by decide +kernel, by decide +kernel⟩
theorem ok_l_less (T : Txt P K mg) : OkD P w K mg base 2 "_law_less" ["one", "two"] F_l_less := OkD.mk' T.d_l_less sc_l_less fun f cdv A outer s H E P0 fz hr => by
  have dx := dx_of (P := P) (w := w) (K := K) (mg := mg) (base := base) (outer := outer) (s := s) (H := H) (E := E) sc_l_less hr
  exact (dss_one (ds_ret (dm_e (de_cmp op_lt' NoX.i2 (de_op2 op_mul' NoX.i2 (de_ix (de_v (pv 0)) de_int (by intro _ _; rfl)) (de_ix (de_v (pv 1)) de_int (by intro _ _; rfl))) (de_op2 op_mul' NoX.i2 (de_ix (de_v (pv 1)) de_int (by intro _ _; rfl)) (de_ix (de_v (pv 0)) de_int (by intro _ _; rfl))) (nomark _)))))
noncomputable def G_l_gcd : Sv :=
  (sSeq (sWhile (eA gNe (lC (eV 1) (lC (eC (.int 0)) lN)))
   (sAsg (.tp [(.nm 0), (.nm 1)]) (mE [1, 0, 1] (eA gLst (lC (eV 1) (lC (eA gMod (lC (eA gInt (lC (eV 0) lN)) (lC (eV 1) lN))) lN))))))
  (sRet (mE [0] (eA gAbs (lC (eV 0) lN)))))
noncomputable def F_l_gcd : List D → ER := runF 2 2 G_l_gcd
theorem sc_l_gcd : FnScope ["one", "two"] ["one", "two"] (defScope s_l_gcd) := ⟨rfl, rfl, rfl, by decide +kernel, rfl, by decide +kernel, by decide +kernel⟩
theorem ok_l_gcd (T : Txt P K mg) : OkD P w K mg base 2 "_law_gcd" ["one", "two"] F_l_gcd := OkD.mk' T.d_l_gcd sc_l_gcd fun f cdv A outer s H E P0 fz hr => by
  have dx := dx_of (P := P) (w := w) (K := K) (mg := mg) (base := base) (outer := outer) (s := s) (H := H) (E := E) sc_l_gcd hr
  exact (dss_cons (ds_while (passes_of rfl) (dt_cmp (op_ne' (by exact dx.rm.units)) NoX.ne (de_v (pv 1)) de_int (nomark _))
   (dss_one (ds_asg (dm_e (de_lst (da_cons (de_v (pv 1)) (da_cons (de_op2 op_mod' NoX.i2 (de_callTy call_int' NoX.int (by rfl) (by exact T.n_int) boot_int (da_cons (de_v (pv 0)) da_nil)) (de_v (pv 1))) da_nil)))) (dg_tup (by exact dx.calm) (dgs_cons (dg_nm (pg_name (i := 0) (by exact dx.nd) (by rfl) (by first | exact .inl (by rfl) | exact .inr (by rfl)))) (dgs_cons (dg_nm (pg_name (i := 1) (by exact dx.nd) (by rfl) (by first | exact .inl (by rfl) | exact .inr (by rfl)))) dgs_nil))))))
  (dss_one (ds_ret (dm_e (de_callB call_abs' NoX.abs (by rfl) (by exact T.n_abs) boot_abs (da_cons (de_v (pv 0)) da_nil))))))
noncomputable def G_l_low : Sv :=
  (sSeq (sSet 2 (mE [0, 1] (eF F_l_gcd (lC (eV 0) (lC (eV 1) lN)))))
  (sRet (mE [0, 2, 1, 2] (eA gTup (lC (eA gInt (lC (eA gDiv (lC (eV 0) (lC (eV 2) lN))) lN)) (lC (eA gInt (lC (eA gDiv (lC (eV 1) (lC (eV 2) lN))) lN)) lN))))))
noncomputable def F_l_low : List D → ER := runF 3 2 G_l_low
theorem sc_l_low : FnScope ["number", "by", "common"] ["number", "by"] (defScope s_l_low) := ⟨rfl, rfl, rfl, by decide +kernel, rfl, by decide +kernel, by decide +kernel⟩
theorem ok_l_low (T : Txt P K mg) : OkD P w K mg base 3 "_law_low" ["number", "by"] F_l_low := OkD.mk' T.d_l_low sc_l_low fun f cdv A outer s H E P0 fz hr => by
  have dx := dx_of (P := P) (w := w) (K := K) (mg := mg) (base := base) (outer := outer) (s := s) (H := H) (E := E) sc_l_low hr
  exact (dss_cons (ds_set (i := 2) (by exact dx.nd) (by rfl) (by first | exact .inl (by rfl) | exact .inr (by rfl)) (dm_e (de_callO dx (ok_l_gcd T) (by decide) (by rfl) (da_cons (de_v (pv 0)) (da_cons (de_v (pv 1)) da_nil)))))
  (dss_one (ds_ret (dm_e (de_tup (da_cons (de_callTy call_int' NoX.int (by rfl) (by exact T.n_int) boot_int (da_cons (de_op2 op_div' NoX.i2 (de_v (pv 0)) (de_v (pv 2))) da_nil)) (da_cons (de_callTy call_int' NoX.int (by rfl) (by exact T.n_int) boot_int (da_cons (de_op2 op_div' NoX.i2 (de_v (pv 1)) (de_v (pv 2))) da_nil)) da_nil)))))))
noncomputable def G_l_plus : Sv :=
  (sRet (mE [0, 1, 1, 0, 0, 1] (eF F_l_low (lC (eA gAdd (lC (eA gMul (lC (eA gIx (lC (eV 0) (lC (eC (.int 0)) lN))) (lC (eA gIx (lC (eV 1) (lC (eC (.int 1)) lN))) lN))) (lC (eA gMul (lC (eA gIx (lC (eV 1) (lC (eC (.int 0)) lN))) (lC (eA gIx (lC (eV 0) (lC (eC (.int 1)) lN))) lN))) lN))) (lC (eA gMul (lC (eA gIx (lC (eV 0) (lC (eC (.int 1)) lN))) (lC (eA gIx (lC (eV 1) (lC (eC (.int 1)) lN))) lN))) lN)))))
noncomputable def F_l_plus : List D → ER := runF 2 2 G_l_plus
theorem sc_l_plus : FnScope ["one", "two"] ["one", "two"] (defScope s_l_plus) := ⟨rfl, rfl, rfl, by decide +kernel, rfl, by decide +kernel, by decide +kernel⟩
theorem ok_l_plus (T : Txt P K mg) : OkD P w K mg base 4 "_law_plus" ["one", "two"] F_l_plus := OkD.mk' T.d_l_plus sc_l_plus fun f cdv A outer s H E P0 fz hr => by
  have dx := dx_of (P := P) (w := w) (K := K) (mg := mg) (base := base) (outer := outer) (s := s) (H := H) (E := E) sc_l_plus hr
  exact (dss_one (ds_ret (dm_e (de_callO dx (ok_l_low T) (by decide) (by rfl) (da_cons (de_op2 op_add' NoX.add (de_op2 op_mul' NoX.i2 (de_ix (de_v (pv 0)) de_int (by intro _ _; rfl)) (de_ix (de_v (pv 1)) de_int (by intro _ _; rfl))) (de_op2 op_mul' NoX.i2 (de_ix (de_v (pv 1)) de_int (by intro _ _; rfl)) (de_ix (de_v (pv 0)) de_int (by intro _ _; rfl)))) (da_cons (de_op2 op_mul' NoX.i2 (de_ix (de_v (pv 0)) de_int (by intro _ _; rfl)) (de_ix (de_v (pv 1)) de_int (by intro _ _; rfl))) da_nil))))))
noncomputable def B_l_sum_1 : Sv := (sSet 1 (mE [1, 2] (eF F_l_plus (lC (eV 1) (lC (eV 2) lN)))))
noncomputable def G_l_sum : Sv :=
  (sSeq (sSet 1 (mE [] (eA gTup (lC (eC (.int 0)) (lC (eC (.int 1)) lN)))))
  (sSeq (sFor [0] (lC (eV 0) lN) giSeq (.nm 2)
   B_l_sum_1)
  (sRet (mV 1))))
noncomputable def F_l_sum : List D → ER := runF 3 1 G_l_sum
theorem sc_l_sum : FnScope ["told", "found", "one"] ["told"] (defScope s_l_sum) := ⟨rfl, rfl, rfl, by decide +kernel, rfl, by decide +kernel, by decide +kernel⟩
theorem ok_l_sum (T : Txt P K mg) : OkD P w K mg base 5 "_law_sum" ["told"] F_l_sum := OkD.mk' T.d_l_sum sc_l_sum fun f cdv A outer s H E P0 fz hr => by
  have dx := dx_of (P := P) (w := w) (K := K) (mg := mg) (base := base) (outer := outer) (s := s) (H := H) (E := E) sc_l_sum hr
  exact (dss_cons (ds_set (i := 1) (by exact dx.nd) (by rfl) (by first | exact .inl (by rfl) | exact .inr (by rfl)) (dm_e (de_tup (da_cons de_int (da_cons de_int da_nil)))))
  (dss_cons (ds_for (passes_of rfl) (by exact dx.calm) (di_seq (de_v (pv 0))) (dg_nm (pg_name (i := 2) (by exact dx.nd) (by rfl) (by first | exact .inl (by rfl) | exact .inr (by rfl))))
   (dss_one (ds_set (i := 1) (by exact dx.nd) (by rfl) (by first | exact .inl (by rfl) | exact .inr (by rfl)) (dm_e (de_callO dx (ok_l_plus T) (by decide) (by rfl) (da_cons (de_v (pv 1)) (da_cons (de_v (pv 2)) da_nil)))))))
  (dss_one (ds_ret (dm_v (pv 1))))))
noncomputable def G_l_record : Sv :=
  (sSeq (sAsg (.tp [(.nm 1), (.nm 2)]) (mV 0))
  (sSeq (sSet 3 (mE [1, 1, 1, 1, 2, 2, 2, 2] (eA gLst (lC (eA gLst (lC (eF F_l_plus (lC (eA gIx (lC (eV 1) (lC (eC (.int 0)) lN))) (lC (eA gIx (lC (eV 1) (lC (eC (.int 1)) lN))) lN))) (lC (eF F_l_plus (lC (eA gIx (lC (eV 1) (lC (eC (.int 2)) lN))) (lC (eA gIx (lC (eV 1) (lC (eC (.int 3)) lN))) lN))) lN))) (lC (eA gLst (lC (eF F_l_plus (lC (eA gIx (lC (eV 2) (lC (eC (.int 0)) lN))) (lC (eA gIx (lC (eV 2) (lC (eC (.int 2)) lN))) lN))) (lC (eF F_l_plus (lC (eA gIx (lC (eV 2) (lC (eC (.int 1)) lN))) (lC (eA gIx (lC (eV 2) (lC (eC (.int 3)) lN))) lN))) lN))) lN)))))
  (sRet (mTup (mC (mV 3) (mC (mE [1, 1, 2, 2] (eF F_l_sum (lC (eA gLst (lC (eA gIx (lC (eV 1) (lC (eC (.int 2)) lN))) (lC (eA gIx (lC (eV 1) (lC (eC (.int 3)) lN))) (lC (eA gIx (lC (eV 2) (lC (eC (.int 2)) lN))) (lC (eA gIx (lC (eV 2) (lC (eC (.int 3)) lN))) lN))))) lN))) (mC (mE [1, 1, 2, 2] (eF F_l_sum (lC (eA gLst (lC (eA gIx (lC (eV 1) (lC (eC (.int 1)) lN))) (lC (eA gIx (lC (eV 1) (lC (eC (.int 3)) lN))) (lC (eA gIx (lC (eV 2) (lC (eC (.int 1)) lN))) (lC (eA gIx (lC (eV 2) (lC (eC (.int 3)) lN))) lN))))) lN))) mN)))))))
noncomputable def F_l_record : List D → ER := runF 4 1 G_l_record
theorem sc_l_record : FnScope ["told", "top", "low", "seen"] ["told"] (defScope s_l_record) := ⟨rfl, rfl, rfl, by decide +kernel, rfl, by decide +kernel, by decide +kernel⟩
theorem ok_l_record (T : Txt P K mg) : OkD P w K mg base 6 "_law_record" ["told"] F_l_record := OkD.mk' T.d_l_record sc_l_record fun f cdv A outer s H E P0 fz hr => by
  have dx := dx_of (P := P) (w := w) (K := K) (mg := mg) (base := base) (outer := outer) (s := s) (H := H) (E := E) sc_l_record hr
  exact (dss_cons (ds_asg (dm_v (pv 0)) (dg_tup (by exact dx.calm) (dgs_cons (dg_nm (pg_name (i := 1) (by exact dx.nd) (by rfl) (by first | exact .inl (by rfl) | exact .inr (by rfl)))) (dgs_cons (dg_nm (pg_name (i := 2) (by exact dx.nd) (by rfl) (by first | exact .inl (by rfl) | exact .inr (by rfl)))) dgs_nil))))
  (dss_cons (ds_set (i := 3) (by exact dx.nd) (by rfl) (by first | exact .inl (by rfl) | exact .inr (by rfl)) (dm_e (de_lst (da_cons (de_lst (da_cons (de_callO dx (ok_l_plus T) (by decide) (by rfl) (da_cons (de_ix (de_v (pv 1)) de_int (by intro _ _; rfl)) (da_cons (de_ix (de_v (pv 1)) de_int (by intro _ _; rfl)) da_nil))) (da_cons (de_callO dx (ok_l_plus T) (by decide) (by rfl) (da_cons (de_ix (de_v (pv 1)) de_int (by intro _ _; rfl)) (da_cons (de_ix (de_v (pv 1)) de_int (by intro _ _; rfl)) da_nil))) da_nil))) (da_cons (de_lst (da_cons (de_callO dx (ok_l_plus T) (by decide) (by rfl) (da_cons (de_ix (de_v (pv 2)) de_int (by intro _ _; rfl)) (da_cons (de_ix (de_v (pv 2)) de_int (by intro _ _; rfl)) da_nil))) (da_cons (de_callO dx (ok_l_plus T) (by decide) (by rfl) (da_cons (de_ix (de_v (pv 2)) de_int (by intro _ _; rfl)) (da_cons (de_ix (de_v (pv 2)) de_int (by intro _ _; rfl)) da_nil))) da_nil))) da_nil)))))
  (dss_one (ds_ret (dm_tup (dml_cons (dm_v (pv 3)) (dml_cons (dm_e (de_callO dx (ok_l_sum T) (by decide) (by rfl) (da_cons (de_lst (da_cons (de_ix (de_v (pv 1)) de_int (by intro _ _; rfl)) (da_cons (de_ix (de_v (pv 1)) de_int (by intro _ _; rfl)) (da_cons (de_ix (de_v (pv 2)) de_int (by intro _ _; rfl)) (da_cons (de_ix (de_v (pv 2)) de_int (by intro _ _; rfl)) da_nil))))) da_nil))) (dml_cons (dm_e (de_callO dx (ok_l_sum T) (by decide) (by rfl) (da_cons (de_lst (da_cons (de_ix (de_v (pv 1)) de_int (by intro _ _; rfl)) (da_cons (de_ix (de_v (pv 1)) de_int (by intro _ _; rfl)) (da_cons (de_ix (de_v (pv 2)) de_int (by intro _ _; rfl)) (da_cons (de_ix (de_v (pv 2)) de_int (by intro _ _; rfl)) da_nil))))) da_nil))) dml_nil))))))))
noncomputable def B_l_are_types_1 : Sv := (sIf (eOr (eA gLt (lC (eA gIx (lC (eV 3) (lC (eC (.int 1)) lN))) (lC (eC (.int 1)) lN))) (eOr (eA gNe (lC (eV 3) (lC (eF F_l_low (lC (eA gIx (lC (eV 3) (lC (eC (.int 0)) lN))) (lC (eA gIx (lC (eV 3) (lC (eC (.int 1)) lN))) lN))) lN))) (eOr (eA gLt (lC (eA gIx (lC (eV 3) (lC (eC (.int 0)) lN))) (lC (eC (.int 0)) lN))) (eF F_l_less (lC (eA gTup (lC (eC (.int 1)) (lC (eC (.int 1)) lN))) (lC (eV 3) lN))))))
    (sRet (mE [] (eC (.bl false))))
    sNx)
noncomputable def G_l_are_types : Sv :=
  (sSeq (sIf (eOr (eA gNe (lC (eA gLen (lC (eV 1) lN)) (lC (eC (.int 2)) lN))) (eA gNe (lC (eLc (lC (eV 1) lN) giSeq (.nm 2) [2] cYes (eA gLen (lC (eV 2) lN))) (lC (eA gLst (lC (eC (.int 4)) (lC (eC (.int 4)) lN))) lN))))
   (sRet (mE [] (eC (.bl false))))
   sNx)
  (sSeq (sFor [1, 1] (lC (eA gAdd (lC (eA gIx (lC (eV 1) (lC (eC (.int 0)) lN))) (lC (eA gIx (lC (eV 1) (lC (eC (.int 1)) lN))) lN))) lN) giSeq (.nm 3)
   B_l_are_types_1)
  (sRet (mE [1, 0] (eA gEq (lC (eF F_l_record (lC (eV 1) lN)) (lC (eV 0) lN)))))))
noncomputable def F_l_are_types : List D → ER := runF 4 2 G_l_are_types
theorem sc_l_are_types : FnScope ["record", "told", "row", "one"] ["record", "told"] (defScope s_l_are_types) := ⟨rfl, rfl, rfl, by decide +kernel, rfl, by decide +kernel, by decide +kernel⟩
theorem ok_l_are_types (T : Txt P K mg) : OkD P w K mg base 7 "_law_are_types" ["record", "told"] F_l_are_types := OkD.mk' T.d_l_are_types sc_l_are_types fun f cdv A outer s H E P0 fz hr => by
  have dx := dx_of (P := P) (w := w) (K := K) (mg := mg) (base := base) (outer := outer) (s := s) (H := H) (E := E) sc_l_are_types hr
  exact (dss_cons (ds_if (PW.pt (dw_or (dt_cmp (op_ne' (by exact dx.rm.units)) NoX.ne (de_callB call_len' NoX.len (by rfl) (by exact T.n_len) boot_len (da_cons (de_v (pv 1)) da_nil)) de_int (nomark _)) (dw_or1 (dt_cmp (op_ne' (by exact dx.rm.units)) NoX.ne (de_lc dx (di_seq (de_v (pv 1))) (own := [("row", 2)]) (blkOk_by (by kernel_rfl)) (by simp [Tg.slots, tgSlots]) (fun s1 H1 C1 cl1 fp1 => (dgv_nm (pg_name (i := 2) (by exact dx.nd) (by rfl) (by first | exact .inl (by rfl) | exact .inr (by rfl))))) (fun s1 H1 C1 cl1 fp1 => dts_nil) (fun s1 H1 C1 cl1 fp1 => (de_callB call_len' NoX.len (by rfl) (by exact T.n_len) boot_len (da_cons (de_v (pv 2)) da_nil)))) (de_lst (da_cons de_int (da_cons de_int da_nil))) (nomark _)))))
   (dss_one (ds_ret (dm_e de_bl)))
   dss_nil)
  (dss_cons (ds_for (passes_of rfl) (by exact dx.calm) (di_seq (de_op2 op_add' NoX.add (de_ix (de_v (pv 1)) de_int (by intro _ _; rfl)) (de_ix (de_v (pv 1)) de_int (by intro _ _; rfl)))) (dg_nm (pg_name (i := 3) (by exact dx.nd) (by rfl) (by first | exact .inl (by rfl) | exact .inr (by rfl))))
   (dss_one (ds_if (PW.pt (dw_or (dt_cmp op_lt' NoX.i2 (de_ix (de_v (pv 3)) de_int (by intro _ _; rfl)) de_int (nomark _)) (dw_or (dt_cmp (op_ne' (by exact dx.rm.units)) NoX.ne (de_v (pv 3)) (de_callO dx (ok_l_low T) (by decide) (by rfl) (da_cons (de_ix (de_v (pv 3)) de_int (by intro _ _; rfl)) (da_cons (de_ix (de_v (pv 3)) de_int (by intro _ _; rfl)) da_nil))) (nomark _)) (dw_or (dt_cmp op_lt' NoX.i2 (de_ix (de_v (pv 3)) de_int (by intro _ _; rfl)) de_int (nomark _)) (dw_or1 (dt_val (de_callO dx (ok_l_less T) (by decide) (by rfl) (da_cons (de_tup (da_cons de_int (da_cons de_int da_nil))) (da_cons (de_v (pv 3)) da_nil)))))))))
    (dss_one (ds_ret (dm_e de_bl)))
    dss_nil)))
  (dss_one (ds_ret (dm_e (de_cmp (op_eq' (by exact dx.rm.units)) NoX.eq (de_callO dx (ok_l_record T) (by decide) (by rfl) (da_cons (de_v (pv 1)) da_nil)) (de_v (pv 0)) (nomark _)))))))
noncomputable def G_l_minus : Sv :=
  (sRet (mE [0, 1, 1, 0, 0, 1] (eF F_l_low (lC (eA gSub (lC (eA gMul (lC (eA gIx (lC (eV 0) (lC (eC (.int 0)) lN))) (lC (eA gIx (lC (eV 1) (lC (eC (.int 1)) lN))) lN))) (lC (eA gMul (lC (eA gIx (lC (eV 1) (lC (eC (.int 0)) lN))) (lC (eA gIx (lC (eV 0) (lC (eC (.int 1)) lN))) lN))) lN))) (lC (eA gMul (lC (eA gIx (lC (eV 0) (lC (eC (.int 1)) lN))) (lC (eA gIx (lC (eV 1) (lC (eC (.int 1)) lN))) lN))) lN)))))
noncomputable def F_l_minus : List D → ER := runF 2 2 G_l_minus
theorem sc_l_minus : FnScope ["one", "two"] ["one", "two"] (defScope s_l_minus) := ⟨rfl, rfl, rfl, by decide +kernel, rfl, by decide +kernel, by decide +kernel⟩
theorem ok_l_minus (T : Txt P K mg) : OkD P w K mg base 4 "_law_minus" ["one", "two"] F_l_minus := OkD.mk' T.d_l_minus sc_l_minus fun f cdv A outer s H E P0 fz hr => by
  have dx := dx_of (P := P) (w := w) (K := K) (mg := mg) (base := base) (outer := outer) (s := s) (H := H) (E := E) sc_l_minus hr
  exact (dss_one (ds_ret (dm_e (de_callO dx (ok_l_low T) (by decide) (by rfl) (da_cons (de_op2 op_sub' NoX.i2 (de_op2 op_mul' NoX.i2 (de_ix (de_v (pv 0)) de_int (by intro _ _; rfl)) (de_ix (de_v (pv 1)) de_int (by intro _ _; rfl))) (de_op2 op_mul' NoX.i2 (de_ix (de_v (pv 1)) de_int (by intro _ _; rfl)) (de_ix (de_v (pv 0)) de_int (by intro _ _; rfl)))) (da_cons (de_op2 op_mul' NoX.i2 (de_ix (de_v (pv 0)) de_int (by intro _ _; rfl)) (de_ix (de_v (pv 1)) de_int (by intro _ _; rfl))) da_nil))))))
noncomputable def B_l_bounds_1 : Sv := (sIf (eF F_l_less (lC (eV 6) (lC (eV 8) lN)))
    (sSet 6 (mV 8))
    sNx)
noncomputable def B_l_bounds_2 : Sv := (sIf (eF F_l_less (lC (eV 8) (lC (eV 7) lN)))
    (sSet 7 (mV 8))
    sNx)
noncomputable def G_l_bounds : Sv :=
  (sSeq (sAsg (.tp [(.nm 1), (.nm 2), (.nm 3)]) (mV 0))
  (sSeq (sSet 4 (mE [3, 2, 1, 1, 2, 3, 1, 1] (eA gLst (lC (eA gTup (lC (eC (.int 0)) (lC (eC (.int 1)) lN))) (lC (eF F_l_minus (lC (eV 3) (lC (eV 2) lN))) (lC (eF F_l_minus (lC (eF F_l_plus (lC (eA gIx (lC (eA gIx (lC (eV 1) (lC (eC (.int 0)) lN))) (lC (eC (.int 1)) lN))) (lC (eA gIx (lC (eA gIx (lC (eV 1) (lC (eC (.int 1)) lN))) (lC (eC (.int 1)) lN))) lN))) (lC (eV 2) lN))) (lC (eF F_l_minus (lC (eV 3) (lC (eF F_l_plus (lC (eA gIx (lC (eA gIx (lC (eV 1) (lC (eC (.int 0)) lN))) (lC (eC (.int 1)) lN))) (lC (eA gIx (lC (eA gIx (lC (eV 1) (lC (eC (.int 1)) lN))) (lC (eC (.int 1)) lN))) lN))) lN))) lN)))))))
  (sSeq (sSet 5 (mE [3, 2, 1, 1] (eA gLst (lC (eV 3) (lC (eF F_l_minus (lC (eA gTup (lC (eC (.int 1)) (lC (eC (.int 1)) lN))) (lC (eV 2) lN))) (lC (eF F_l_plus (lC (eA gIx (lC (eA gIx (lC (eV 1) (lC (eC (.int 1)) lN))) (lC (eC (.int 1)) lN))) (lC (eA gIx (lC (eA gIx (lC (eV 1) (lC (eC (.int 0)) lN))) (lC (eC (.int 0)) lN))) lN))) lN))))))
  (sSeq (sDrop (mMeth 5 [] (mC (mE [3, 2, 1, 1] (eF F_l_plus (lC (eF F_l_minus (lC (eV 3) (lC (eV 2) lN))) (lC (eF F_l_plus (lC (eA gIx (lC (eA gIx (lC (eV 1) (lC (eC (.int 1)) lN))) (lC (eC (.int 0)) lN))) (lC (eA gIx (lC (eA gIx (lC (eV 1) (lC (eC (.int 0)) lN))) (lC (eC (.int 1)) lN))) lN))) lN)))) mN) gAppend))
  (sSeq (sAsg (.tp [(.nm 6), (.nm 7)]) (mE [4, 5] (eA gLst (lC (eA gIx (lC (eV 4) (lC (eC (.int 0)) lN))) (lC (eA gIx (lC (eV 5) (lC (eC (.int 0)) lN))) lN)))))
  (sSeq (sFor [4] (lC (eV 4) lN) giSeq (.nm 8)
   B_l_bounds_1)
  (sSeq (sFor [5] (lC (eV 5) lN) giSeq (.nm 8)
   B_l_bounds_2)
  (sRet (mTup (mC (mV 6) (mC (mV 7) mN)))))))))))
noncomputable def F_l_bounds : List D → ER := runF 9 1 G_l_bounds
theorem sc_l_bounds : FnScope ["record", "seen", "zero", "one", "lows", "highs", "low", "high", "number"] ["record"] (defScope s_l_bounds) := ⟨rfl, rfl, rfl, by decide +kernel, rfl, by decide +kernel, by decide +kernel⟩
theorem ok_l_bounds (T : Txt P K mg) : OkD P w K mg base 5 "_law_bounds" ["record"] F_l_bounds := OkD.mk' T.d_l_bounds sc_l_bounds fun f cdv A outer s H E P0 fz hr => by
  have dx := dx_of (P := P) (w := w) (K := K) (mg := mg) (base := base) (outer := outer) (s := s) (H := H) (E := E) sc_l_bounds hr
  exact (dss_cons (ds_asg (dm_v (pv 0)) (dg_tup (by exact dx.calm) (dgs_cons (dg_nm (pg_name (i := 1) (by exact dx.nd) (by rfl) (by first | exact .inl (by rfl) | exact .inr (by rfl)))) (dgs_cons (dg_nm (pg_name (i := 2) (by exact dx.nd) (by rfl) (by first | exact .inl (by rfl) | exact .inr (by rfl)))) (dgs_cons (dg_nm (pg_name (i := 3) (by exact dx.nd) (by rfl) (by first | exact .inl (by rfl) | exact .inr (by rfl)))) dgs_nil)))))
  (dss_cons (ds_set (i := 4) (by exact dx.nd) (by rfl) (by first | exact .inl (by rfl) | exact .inr (by rfl)) (dm_e (de_lst (da_cons (de_tup (da_cons de_int (da_cons de_int da_nil))) (da_cons (de_callO dx (ok_l_minus T) (by decide) (by rfl) (da_cons (de_v (pv 3)) (da_cons (de_v (pv 2)) da_nil))) (da_cons (de_callO dx (ok_l_minus T) (by decide) (by rfl) (da_cons (de_callO dx (ok_l_plus T) (by decide) (by rfl) (da_cons (de_ix (de_ix (de_v (pv 1)) de_int (by intro _ _; rfl)) de_int (by intro _ _; rfl)) (da_cons (de_ix (de_ix (de_v (pv 1)) de_int (by intro _ _; rfl)) de_int (by intro _ _; rfl)) da_nil))) (da_cons (de_v (pv 2)) da_nil))) (da_cons (de_callO dx (ok_l_minus T) (by decide) (by rfl) (da_cons (de_v (pv 3)) (da_cons (de_callO dx (ok_l_plus T) (by decide) (by rfl) (da_cons (de_ix (de_ix (de_v (pv 1)) de_int (by intro _ _; rfl)) de_int (by intro _ _; rfl)) (da_cons (de_ix (de_ix (de_v (pv 1)) de_int (by intro _ _; rfl)) de_int (by intro _ _; rfl)) da_nil))) da_nil))) da_nil)))))))
  (dss_cons (ds_set (i := 5) (by exact dx.nd) (by rfl) (by first | exact .inl (by rfl) | exact .inr (by rfl)) (dm_e (de_lst (da_cons (de_v (pv 3)) (da_cons (de_callO dx (ok_l_minus T) (by decide) (by rfl) (da_cons (de_tup (da_cons de_int (da_cons de_int da_nil))) (da_cons (de_v (pv 2)) da_nil))) (da_cons (de_callO dx (ok_l_plus T) (by decide) (by rfl) (da_cons (de_ix (de_ix (de_v (pv 1)) de_int (by intro _ _; rfl)) de_int (by intro _ _; rfl)) (da_cons (de_ix (de_ix (de_v (pv 1)) de_int (by intro _ _; rfl)) de_int (by intro _ _; rfl)) da_nil))) da_nil))))))
  (dss_cons (ds_drop (dm_meth F.slot_list_append F.type_list_append mt_append md_append rfl rfl (tp_v (pv 5)) (dmls_cons (dms_e (de_callO dx (ok_l_plus T) (by decide) (by rfl) (da_cons (de_callO dx (ok_l_minus T) (by decide) (by rfl) (da_cons (de_v (pv 3)) (da_cons (de_v (pv 2)) da_nil))) (da_cons (de_callO dx (ok_l_plus T) (by decide) (by rfl) (da_cons (de_ix (de_ix (de_v (pv 1)) de_int (by intro _ _; rfl)) de_int (by intro _ _; rfl)) (da_cons (de_ix (de_ix (de_v (pv 1)) de_int (by intro _ _; rfl)) de_int (by intro _ _; rfl)) da_nil))) da_nil)))) dmls_nil)))
  (dss_cons (ds_asg (dm_e (de_lst (da_cons (de_ix (de_v (pv 4)) de_int (by intro _ _; rfl)) (da_cons (de_ix (de_v (pv 5)) de_int (by intro _ _; rfl)) da_nil)))) (dg_tup (by exact dx.calm) (dgs_cons (dg_nm (pg_name (i := 6) (by exact dx.nd) (by rfl) (by first | exact .inl (by rfl) | exact .inr (by rfl)))) (dgs_cons (dg_nm (pg_name (i := 7) (by exact dx.nd) (by rfl) (by first | exact .inl (by rfl) | exact .inr (by rfl)))) dgs_nil))))
  (dss_cons (ds_for (passes_of rfl) (by exact dx.calm) (di_seq (de_v (pv 4))) (dg_nm (pg_name (i := 8) (by exact dx.nd) (by rfl) (by first | exact .inl (by rfl) | exact .inr (by rfl))))
   (dss_one (ds_if (dt_val (de_callO dx (ok_l_less T) (by decide) (by rfl) (da_cons (de_v (pv 6)) (da_cons (de_v (pv 8)) da_nil))))
    (dss_one (ds_set (i := 6) (by exact dx.nd) (by rfl) (by first | exact .inl (by rfl) | exact .inr (by rfl)) (dm_v (pv 8))))
    dss_nil)))
  (dss_cons (ds_for (passes_of rfl) (by exact dx.calm) (di_seq (de_v (pv 5))) (dg_nm (pg_name (i := 8) (by exact dx.nd) (by rfl) (by first | exact .inl (by rfl) | exact .inr (by rfl))))
   (dss_one (ds_if (dt_val (de_callO dx (ok_l_less T) (by decide) (by rfl) (da_cons (de_v (pv 8)) (da_cons (de_v (pv 7)) da_nil))))
    (dss_one (ds_set (i := 7) (by exact dx.nd) (by rfl) (by first | exact .inl (by rfl) | exact .inr (by rfl)) (dm_v (pv 8))))
    dss_nil)))
  (dss_one (ds_ret (dm_tup (dml_cons (dm_v (pv 6)) (dml_cons (dm_v (pv 7)) dml_nil))))))))))))
noncomputable def G_l_chance : Sv :=
  (sSeq (sAsg (.tp [(.nm 2), (.nm 3)]) (mV 0))
  (sSeq (sIf (eA gEq (lC (eV 1) (lC (eC (.str "both")) lN)))
   (sRet (mE [2, 3] (eF F_l_plus (lC (eA gIx (lC (eV 2) (lC (eC (.int 1)) lN))) (lC (eA gIx (lC (eV 3) (lC (eC (.int 1)) lN))) lN)))))
   sNx)
  (sSeq (sAsg (.tp [(.nm 4), (.nm 5)]) (mE [3, 3, 3] (eA gLst (lC (eA gIx (lC (eV 3) (lC (eC (.int 1)) lN))) (lC (eF F_l_plus (lC (eA gIx (lC (eV 3) (lC (eC (.int 1)) lN))) (lC (eA gIx (lC (eV 3) (lC (eC (.int 3)) lN))) lN))) lN)))))
  (sSeq (sIf (eA gEq (lC (eV 1) (lC (eC (.str "enough")) lN)))
   (sAsg (.tp [(.nm 4), (.nm 5)]) (mE [2, 2, 2] (eA gLst (lC (eA gIx (lC (eV 2) (lC (eC (.int 1)) lN))) (lC (eF F_l_plus (lC (eA gIx (lC (eV 2) (lC (eC (.int 0)) lN))) (lC (eA gIx (lC (eV 2) (lC (eC (.int 1)) lN))) lN))) lN)))))
   sNx)
  (sSeq (sIf (eA gEq (lC (eA gIx (lC (eV 5) (lC (eC (.int 0)) lN))) (lC (eC (.int 0)) lN)))
   (sRet (mE [] (eC .non)))
   sNx)
  (sRet (mE [4, 5, 4, 5] (eF F_l_low (lC (eA gMul (lC (eA gIx (lC (eV 4) (lC (eC (.int 0)) lN))) (lC (eA gIx (lC (eV 5) (lC (eC (.int 1)) lN))) lN))) (lC (eA gMul (lC (eA gIx (lC (eV 4) (lC (eC (.int 1)) lN))) (lC (eA gIx (lC (eV 5) (lC (eC (.int 0)) lN))) lN))) lN))))))))))
noncomputable def F_l_chance : List D → ER := runF 6 2 G_l_chance
theorem sc_l_chance : FnScope ["told", "word", "top", "low", "part", "whole"] ["told", "word"] (defScope s_l_chance) := ⟨rfl, rfl, rfl, by decide +kernel, rfl, by decide +kernel, by decide +kernel⟩
theorem ok_l_chance (T : Txt P K mg) : OkD P w K mg base 5 "_law_chance" ["told", "word"] F_l_chance := OkD.mk' T.d_l_chance sc_l_chance fun f cdv A outer s H E P0 fz hr => by
  have dx := dx_of (P := P) (w := w) (K := K) (mg := mg) (base := base) (outer := outer) (s := s) (H := H) (E := E) sc_l_chance hr
  exact (dss_cons (ds_asg (dm_v (pv 0)) (dg_tup (by exact dx.calm) (dgs_cons (dg_nm (pg_name (i := 2) (by exact dx.nd) (by rfl) (by first | exact .inl (by rfl) | exact .inr (by rfl)))) (dgs_cons (dg_nm (pg_name (i := 3) (by exact dx.nd) (by rfl) (by first | exact .inl (by rfl) | exact .inr (by rfl)))) dgs_nil))))
  (dss_cons (ds_if (dt_cmp (op_eq' (by exact dx.rm.units)) NoX.eq (de_v (pv 1)) de_str (nomark _))
   (dss_one (ds_ret (dm_e (de_callO dx (ok_l_plus T) (by decide) (by rfl) (da_cons (de_ix (de_v (pv 2)) de_int (by intro _ _; rfl)) (da_cons (de_ix (de_v (pv 3)) de_int (by intro _ _; rfl)) da_nil))))))
   dss_nil)
  (dss_cons (ds_asg (dm_e (de_lst (da_cons (de_ix (de_v (pv 3)) de_int (by intro _ _; rfl)) (da_cons (de_callO dx (ok_l_plus T) (by decide) (by rfl) (da_cons (de_ix (de_v (pv 3)) de_int (by intro _ _; rfl)) (da_cons (de_ix (de_v (pv 3)) de_int (by intro _ _; rfl)) da_nil))) da_nil)))) (dg_tup (by exact dx.calm) (dgs_cons (dg_nm (pg_name (i := 4) (by exact dx.nd) (by rfl) (by first | exact .inl (by rfl) | exact .inr (by rfl)))) (dgs_cons (dg_nm (pg_name (i := 5) (by exact dx.nd) (by rfl) (by first | exact .inl (by rfl) | exact .inr (by rfl)))) dgs_nil))))
  (dss_cons (ds_if (dt_cmp (op_eq' (by exact dx.rm.units)) NoX.eq (de_v (pv 1)) de_str (nomark _))
   (dss_one (ds_asg (dm_e (de_lst (da_cons (de_ix (de_v (pv 2)) de_int (by intro _ _; rfl)) (da_cons (de_callO dx (ok_l_plus T) (by decide) (by rfl) (da_cons (de_ix (de_v (pv 2)) de_int (by intro _ _; rfl)) (da_cons (de_ix (de_v (pv 2)) de_int (by intro _ _; rfl)) da_nil))) da_nil)))) (dg_tup (by exact dx.calm) (dgs_cons (dg_nm (pg_name (i := 4) (by exact dx.nd) (by rfl) (by first | exact .inl (by rfl) | exact .inr (by rfl)))) (dgs_cons (dg_nm (pg_name (i := 5) (by exact dx.nd) (by rfl) (by first | exact .inl (by rfl) | exact .inr (by rfl)))) dgs_nil)))))
   dss_nil)
  (dss_cons (ds_if (dt_cmp (op_eq' (by exact dx.rm.units)) NoX.eq (de_ix (de_v (pv 5)) de_int (by intro _ _; rfl)) de_int (nomark _))
   (dss_one (ds_ret (dm_e de_non)))
   dss_nil)
  (dss_one (ds_ret (dm_e (de_callO dx (ok_l_low T) (by decide) (by rfl) (da_cons (de_op2 op_mul' NoX.i2 (de_ix (de_v (pv 4)) de_int (by intro _ _; rfl)) (de_ix (de_v (pv 5)) de_int (by intro _ _; rfl))) (da_cons (de_op2 op_mul' NoX.i2 (de_ix (de_v (pv 4)) de_int (by intro _ _; rfl)) (de_ix (de_v (pv 5)) de_int (by intro _ _; rfl))) da_nil)))))))))))
def B_l_draws_1 : Sv := (sIf (eA gGt (lC (eV 3) (lC (eC (.int 0)) lN)))
      (sSeq (sDrop (mMeth 1 [] (mC (mE [3] (eA gMod (lC (eA gInt (lC (eV 3) lN)) (lC (eC (.int 65536)) lN)))) mN) gAppend))
      (sSet 3 (mE [3] (eA gDiv (lC (eV 3) (lC (eC (.int 65536)) lN))))))
      sNx)
def B_l_draws_2 : Sv := (sSeq (sSet 3 (mE [0, 2] (eA gAbs (lC (eA gIx (lC (eV 0) (lC (eV 2) lN))) lN))))
   (sIf (eA gGe (lC (eV 3) (lC (eA gPow (lC (eC (.int 10)) (lC (eC (.int 18)) lN))) lN)))
    (sFor [] (lC (eC (.int 60)) lN) giRng1 (.nm 4)
     B_l_draws_1)
    (sSeq (sSet 5 (mE [3, 2] (eA gMod (lC (eA gInt (lC (eA gAdd (lC (eA gMul (lC (eV 3) (lC (eC (.int 48271)) lN))) (lC (eA gMul (lC (eA gAdd (lC (eV 2) (lC (eC (.int 1)) lN))) (lC (eC (.int 69621)) lN))) lN))) lN)) (lC (eC (.int 2147483647)) lN)))))
    (sSeq (sSet 5 (mE [5, 2] (eA gMod (lC (eA gInt (lC (eA gAdd (lC (eA gAdd (lC (eA gMul (lC (eV 5) (lC (eC (.int 16807)) lN))) (lC (eA gMul (lC (eC (.int 11)) (lC (eV 2) lN))) lN))) (lC (eC (.int 5)) lN))) lN)) (lC (eC (.int 2147483629)) lN)))))
    (sSeq (sDrop (mMeth 1 [] (mC (mE [5] (eA gMod (lC (eA gInt (lC (eV 5) lN)) (lC (eC (.int 65536)) lN)))) mN) gAppend))
    (sDrop (mMeth 1 [] (mC (mE [5] (eA gMod (lC (eA gInt (lC (eA gDiv (lC (eV 5) (lC (eC (.int 65536)) lN))) lN)) (lC (eC (.int 32768)) lN)))) mN) gAppend)))))))
def G_l_draws : Sv :=
  (sSeq (sSet 1 (mE [] (eA gLst lN)))
  (sSeq (sFor [0] (lC (eA gMin (lC (eC (.int 63)) (lC (eA gLen (lC (eV 0) lN)) lN))) lN) giRng1 (.nm 2)
   B_l_draws_2)
  (sRet (mV 1))))
def F_l_draws : List D → ER := runF 6 1 G_l_draws
theorem sc_l_draws : FnScope ["script", "draws", "k", "rest", "turn", "mixed"] ["script"] (defScope s_l_draws) := ⟨rfl, rfl, rfl, by decide +kernel, rfl, by decide +kernel, by decide +kernel⟩
theorem ok_l_draws (T : Txt P K mg) : OkD P w K mg base 2 "_law_draws" ["script"] F_l_draws := OkD.mk' T.d_l_draws sc_l_draws fun f cdv A outer s H E P0 fz hr => by
  have dx := dx_of (P := P) (w := w) (K := K) (mg := mg) (base := base) (outer := outer) (s := s) (H := H) (E := E) sc_l_draws hr
  exact (dss_cons (ds_set (i := 1) (by exact dx.nd) (by rfl) (by first | exact .inl (by rfl) | exact .inr (by rfl)) (dm_e (de_lst da_nil)))
  (dss_cons (ds_for (passes_of rfl) (by exact dx.calm) (di_rng1 (by rfl) (by exact T.n_range) (da_cons (de_callB (call_min' (by exact dx.calm)) NoX.min (by rfl) (by exact T.n_min) boot_min (da_cons de_int (da_cons (de_callB call_len' NoX.len (by rfl) (by exact T.n_len) boot_len (da_cons (de_v (pv 0)) da_nil)) da_nil))) da_nil)) (dg_nm (pg_name (i := 2) (by exact dx.nd) (by rfl) (by first | exact .inl (by rfl) | exact .inr (by rfl))))
   (dss_cons (ds_set (i := 3) (by exact dx.nd) (by rfl) (by first | exact .inl (by rfl) | exact .inr (by rfl)) (dm_e (de_callB call_abs' NoX.abs (by rfl) (by exact T.n_abs) boot_abs (da_cons (de_ix (de_v (pv 0)) (de_v (pv 2)) (by intro _ _; rfl)) da_nil))))
   (dss_one (ds_if (dt_cmp op_ge' NoX.i2 (de_v (pv 3)) (de_op2 op_pow' NoX.i2 de_int de_int) (nomark _))
    (dss_one (ds_for (passes_of rfl) (by exact dx.calm) (di_rng1 (by rfl) (by exact T.n_range) (da_cons de_int da_nil)) (dg_nm (pg_name (i := 4) (by exact dx.nd) (by rfl) (by first | exact .inl (by rfl) | exact .inr (by rfl))))
     (dss_one (ds_if (dt_cmp op_gt' NoX.i2 (de_v (pv 3)) de_int (nomark _))
      (dss_cons (ds_drop (dm_meth F.slot_list_append F.type_list_append mt_append md_append rfl rfl (tp_v (pv 1)) (dmls_cons (dms_e (de_op2 op_mod' NoX.i2 (de_callTy call_int' NoX.int (by rfl) (by exact T.n_int) boot_int (da_cons (de_v (pv 3)) da_nil)) de_int)) dmls_nil)))
      (dss_one (ds_set (i := 3) (by exact dx.nd) (by rfl) (by first | exact .inl (by rfl) | exact .inr (by rfl)) (dm_e (de_op2 op_div' NoX.i2 (de_v (pv 3)) de_int)))))
      dss_nil))))
    (dss_cons (ds_set (i := 5) (by exact dx.nd) (by rfl) (by first | exact .inl (by rfl) | exact .inr (by rfl)) (dm_e (de_op2 op_mod' NoX.i2 (de_callTy call_int' NoX.int (by rfl) (by exact T.n_int) boot_int (da_cons (de_op2 op_add' NoX.add (de_op2 op_mul' NoX.i2 (de_v (pv 3)) de_int) (de_op2 op_mul' NoX.i2 (de_op2 op_add' NoX.add (de_v (pv 2)) de_int) de_int)) da_nil)) de_int)))
    (dss_cons (ds_set (i := 5) (by exact dx.nd) (by rfl) (by first | exact .inl (by rfl) | exact .inr (by rfl)) (dm_e (de_op2 op_mod' NoX.i2 (de_callTy call_int' NoX.int (by rfl) (by exact T.n_int) boot_int (da_cons (de_op2 op_add' NoX.add (de_op2 op_add' NoX.add (de_op2 op_mul' NoX.i2 (de_v (pv 5)) de_int) (de_op2 op_mul' NoX.i2 de_int (de_v (pv 2)))) de_int) da_nil)) de_int)))
    (dss_cons (ds_drop (dm_meth F.slot_list_append F.type_list_append mt_append md_append rfl rfl (tp_v (pv 1)) (dmls_cons (dms_e (de_op2 op_mod' NoX.i2 (de_callTy call_int' NoX.int (by rfl) (by exact T.n_int) boot_int (da_cons (de_v (pv 5)) da_nil)) de_int)) dmls_nil)))
    (dss_one (ds_drop (dm_meth F.slot_list_append F.type_list_append mt_append md_append rfl rfl (tp_v (pv 1)) (dmls_cons (dms_e (de_op2 op_mod' NoX.i2 (de_callTy call_int' NoX.int (by rfl) (by exact T.n_int) boot_int (da_cons (de_op2 op_div' NoX.i2 (de_v (pv 5)) de_int) da_nil)) de_int)) dmls_nil)))))))))))
  (dss_one (ds_ret (dm_v (pv 1))))))
def G_l_mix : Sv :=
  (sSeq (sSet 3 (mE [] (eC (.int 0))))
  (sSeq (sIf (eA gGt (lC (eA gLen (lC (eV 0) lN)) (lC (eC (.int 0)) lN)))
   (sSet 3 (mE [0, 1, 0] (eA gIx (lC (eV 0) (lC (eA gMod (lC (eA gInt (lC (eV 1) lN)) (lC (eA gLen (lC (eV 0) lN)) lN))) lN)))))
   sNx)
  (sSeq (sIf (eA gLt (lC (eV 1) (lC (eA gLen (lC (eV 0) lN)) lN)))
   (sRet (mE [3, 2] (eA gMod (lC (eA gInt (lC (eV 3) lN)) (lC (eV 2) lN)))))
   sNx)
  (sRet (mE [3, 1, 2] (eA gMod (lC (eA gInt (lC (eA gDiv (lC (eA gInt (lC (eA gAdd (lC (eA gMul (lC (eV 3) (lC (eC (.int 7919)) lN))) (lC (eA gMul (lC (eV 1) (lC (eC (.int 104729)) lN))) lN))) lN)) (lC (eC (.int 3)) lN))) lN)) (lC (eV 2) lN))))))))
def F_l_mix : List D → ER := runF 4 3 G_l_mix
theorem sc_l_mix : FnScope ["draws", "k", "many", "value"] ["draws", "k", "many"] (defScope s_l_mix) := ⟨rfl, rfl, rfl, by decide +kernel, rfl, by decide +kernel, by decide +kernel⟩
theorem ok_l_mix (T : Txt P K mg) : OkD P w K mg base 2 "_law_mix" ["draws", "k", "many"] F_l_mix := OkD.mk' T.d_l_mix sc_l_mix fun f cdv A outer s H E P0 fz hr => by
  have dx := dx_of (P := P) (w := w) (K := K) (mg := mg) (base := base) (outer := outer) (s := s) (H := H) (E := E) sc_l_mix hr
  exact (dss_cons (ds_set (i := 3) (by exact dx.nd) (by rfl) (by first | exact .inl (by rfl) | exact .inr (by rfl)) (dm_e de_int))
  (dss_cons (ds_if (dt_cmp op_gt' NoX.i2 (de_callB call_len' NoX.len (by rfl) (by exact T.n_len) boot_len (da_cons (de_v (pv 0)) da_nil)) de_int (nomark _))
   (dss_one (ds_set (i := 3) (by exact dx.nd) (by rfl) (by first | exact .inl (by rfl) | exact .inr (by rfl)) (dm_e (de_ix (de_v (pv 0)) (de_op2 op_mod' NoX.i2 (de_callTy call_int' NoX.int (by rfl) (by exact T.n_int) boot_int (da_cons (de_v (pv 1)) da_nil)) (de_callB call_len' NoX.len (by rfl) (by exact T.n_len) boot_len (da_cons (de_v (pv 0)) da_nil))) (by intro _ _; rfl)))))
   dss_nil)
  (dss_cons (ds_if (dt_cmp op_lt' NoX.i2 (de_v (pv 1)) (de_callB call_len' NoX.len (by rfl) (by exact T.n_len) boot_len (da_cons (de_v (pv 0)) da_nil)) (nomark _))
   (dss_one (ds_ret (dm_e (de_op2 op_mod' NoX.i2 (de_callTy call_int' NoX.int (by rfl) (by exact T.n_int) boot_int (da_cons (de_v (pv 3)) da_nil)) (de_v (pv 2))))))
   dss_nil)
  (dss_one (ds_ret (dm_e (de_op2 op_mod' NoX.i2 (de_callTy call_int' NoX.int (by rfl) (by exact T.n_int) boot_int (da_cons (de_op2 op_div' NoX.i2 (de_callTy call_int' NoX.int (by rfl) (by exact T.n_int) boot_int (da_cons (de_op2 op_add' NoX.add (de_op2 op_mul' NoX.i2 (de_v (pv 3)) de_int) (de_op2 op_mul' NoX.i2 (de_v (pv 1)) de_int)) da_nil)) de_int) da_nil)) (de_v (pv 2)))))))))
noncomputable def G_l_moved : Sv :=
  (sSeq (sSet 3 (mE [0, 0] (eA gLst (lC (eA gList (lC (eA gIx (lC (eV 0) (lC (eC (.int 0)) lN))) lN)) (lC (eA gList (lC (eA gIx (lC (eV 0) (lC (eC (.int 1)) lN))) lN)) lN)))))
  (sSeq (sAsg (.sub 3 [(eV 1)]) (mE [3, 1, 2, 3, 1, 2, 3, 1, 2, 3, 1, 2] (eA gLst (lC (eF F_l_minus (lC (eA gIx (lC (eA gIx (lC (eV 3) (lC (eV 1) lN))) (lC (eC (.int 0)) lN))) (lC (eV 2) lN))) (lC (eF F_l_plus (lC (eA gIx (lC (eA gIx (lC (eV 3) (lC (eV 1) lN))) (lC (eC (.int 1)) lN))) (lC (eV 2) lN))) (lC (eF F_l_plus (lC (eA gIx (lC (eA gIx (lC (eV 3) (lC (eV 1) lN))) (lC (eC (.int 2)) lN))) (lC (eV 2) lN))) (lC (eF F_l_minus (lC (eA gIx (lC (eA gIx (lC (eV 3) (lC (eV 1) lN))) (lC (eC (.int 3)) lN))) (lC (eV 2) lN))) lN)))))))
  (sRet (mV 3))))
noncomputable def F_l_moved : List D → ER := runF 4 3 G_l_moved
theorem sc_l_moved : FnScope ["told", "x", "by", "rows"] ["told", "x", "by"] (defScope s_l_moved) := ⟨rfl, rfl, rfl, by decide +kernel, rfl, by decide +kernel, by decide +kernel⟩
theorem ok_l_moved (T : Txt P K mg) : OkD P w K mg base 5 "_law_moved" ["told", "x", "by"] F_l_moved := OkD.mk' T.d_l_moved sc_l_moved fun f cdv A outer s H E P0 fz hr => by
  have dx := dx_of (P := P) (w := w) (K := K) (mg := mg) (base := base) (outer := outer) (s := s) (H := H) (E := E) sc_l_moved hr
  exact (dss_cons (ds_set (i := 3) (by exact dx.nd) (by rfl) (by first | exact .inl (by rfl) | exact .inr (by rfl)) (dm_e (de_lst (da_cons (de_callTy call_list' NoX.list (by rfl) (by exact T.n_list) boot_list (da_cons (de_ix (de_v (pv 0)) de_int (by intro _ _; rfl)) da_nil)) (da_cons (de_callTy call_list' NoX.list (by rfl) (by exact T.n_list) boot_list (da_cons (de_ix (de_v (pv 0)) de_int (by intro _ _; rfl)) da_nil)) da_nil)))))
  (dss_cons (ds_asg (dm_e (de_lst (da_cons (de_callO dx (ok_l_minus T) (by decide) (by rfl) (da_cons (de_ix (de_ix (de_v (pv 3)) (de_v (pv 1)) (by intro _ _; rfl)) de_int (by intro _ _; rfl)) (da_cons (de_v (pv 2)) da_nil))) (da_cons (de_callO dx (ok_l_plus T) (by decide) (by rfl) (da_cons (de_ix (de_ix (de_v (pv 3)) (de_v (pv 1)) (by intro _ _; rfl)) de_int (by intro _ _; rfl)) (da_cons (de_v (pv 2)) da_nil))) (da_cons (de_callO dx (ok_l_plus T) (by decide) (by rfl) (da_cons (de_ix (de_ix (de_v (pv 3)) (de_v (pv 1)) (by intro _ _; rfl)) de_int (by intro _ _; rfl)) (da_cons (de_v (pv 2)) da_nil))) (da_cons (de_callO dx (ok_l_minus T) (by decide) (by rfl) (da_cons (de_ix (de_ix (de_v (pv 3)) (de_v (pv 1)) (by intro _ _; rfl)) de_int (by intro _ _; rfl)) (da_cons (de_v (pv 2)) da_nil))) da_nil)))))) (dg_sub (tp_v (pv 3)) (de_v (pv 1)) rfl rfl))
  (dss_one (ds_ret (dm_v (pv 3))))))
def G_fraction : Sv :=
  (sSeq (sIf (eA gLt (lC (eV 1) (lC (eC (.int 0)) lN)))
   (sPar 0 1 (mC (mE [0] (eA gNeg (lC (eV 0) lN))) (mC (mE [1] (eA gNeg (lC (eV 1) lN))) mN)))
   sNx)
  (sSeq (sSet 2 (mE [0, 1] (eA gGcd (lC (eV 0) (lC (eV 1) lN)))))
  (sRet (mE [0, 2, 1, 2] (eA gTup (lC (eA gDiv (lC (eV 0) (lC (eV 2) lN))) (lC (eA gDiv (lC (eV 1) (lC (eV 2) lN))) lN)))))))
def F_fraction : List D → ER := runF 3 2 G_fraction
theorem sc_fraction : FnScope ["number", "by", "common"] ["number", "by"] (defScope s_fraction) := ⟨rfl, rfl, rfl, by decide +kernel, rfl, by decide +kernel, by decide +kernel⟩
theorem ok_fraction (T : Txt P K mg) : OkD P w K mg base 2 "fraction" ["number", "by"] F_fraction := OkD.mk' T.d_fraction sc_fraction fun f cdv A outer s H E P0 fz hr => by
  have dx := dx_of (P := P) (w := w) (K := K) (mg := mg) (base := base) (outer := outer) (s := s) (H := H) (E := E) sc_fraction hr
  exact (dss_cons (ds_if (dt_cmp op_lt' NoX.i2 (de_v (pv 1)) de_int (nomark _))
   (dss_one (ds_par (i := 0) (j := 1) (by exact dx.calm) (by exact dx.nd) (by rfl) (by rfl) (by decide) (by rfl) (by rfl) (dml_cons (dm_e (de_op1 un_neg' NoX.neg (de_v (pv 0)))) (dml_cons (dm_e (de_op1 un_neg' NoX.neg (de_v (pv 1)))) dml_nil))))
   dss_nil)
  (dss_cons (ds_set (i := 2) (by exact dx.nd) (by rfl) (by first | exact .inl (by rfl) | exact .inr (by rfl)) (dm_e (de_callM call_gcd' NoX.gcd (by rfl) (by exact T.n_gcd) (da_cons (de_v (pv 0)) (da_cons (de_v (pv 1)) da_nil)))))
  (dss_one (ds_ret (dm_e (de_tup (da_cons (de_op2 op_div' NoX.i2 (de_v (pv 0)) (de_v (pv 2))) (da_cons (de_op2 op_div' NoX.i2 (de_v (pv 1)) (de_v (pv 2))) da_nil))))))))
def G_minus : Sv :=
  (sRet (mE [0, 1, 1, 0, 0, 1] (eF F_fraction (lC (eA gSub (lC (eA gMul (lC (eA gIx (lC (eV 0) (lC (eC (.int 0)) lN))) (lC (eA gIx (lC (eV 1) (lC (eC (.int 1)) lN))) lN))) (lC (eA gMul (lC (eA gIx (lC (eV 1) (lC (eC (.int 0)) lN))) (lC (eA gIx (lC (eV 0) (lC (eC (.int 1)) lN))) lN))) lN))) (lC (eA gMul (lC (eA gIx (lC (eV 0) (lC (eC (.int 1)) lN))) (lC (eA gIx (lC (eV 1) (lC (eC (.int 1)) lN))) lN))) lN)))))
def F_minus : List D → ER := runF 2 2 G_minus
theorem sc_minus : FnScope ["one", "two"] ["one", "two"] (defScope s_minus) := ⟨rfl, rfl, rfl, by decide +kernel, rfl, by decide +kernel, by decide +kernel⟩
theorem ok_minus (T : Txt P K mg) : OkD P w K mg base 3 "minus" ["one", "two"] F_minus := OkD.mk' T.d_minus sc_minus fun f cdv A outer s H E P0 fz hr => by
  have dx := dx_of (P := P) (w := w) (K := K) (mg := mg) (base := base) (outer := outer) (s := s) (H := H) (E := E) sc_minus hr
  exact (dss_one (ds_ret (dm_e (de_callO dx (ok_fraction T) (by decide) (by rfl) (da_cons (de_op2 op_sub' NoX.i2 (de_op2 op_mul' NoX.i2 (de_ix (de_v (pv 0)) de_int (by intro _ _; rfl)) (de_ix (de_v (pv 1)) de_int (by intro _ _; rfl))) (de_op2 op_mul' NoX.i2 (de_ix (de_v (pv 1)) de_int (by intro _ _; rfl)) (de_ix (de_v (pv 0)) de_int (by intro _ _; rfl)))) (da_cons (de_op2 op_mul' NoX.i2 (de_ix (de_v (pv 0)) de_int (by intro _ _; rfl)) (de_ix (de_v (pv 1)) de_int (by intro _ _; rfl))) da_nil))))))
def G_gains_of : Sv :=
  (sSeq (sAsg (.tp [(.nm 1), (.nm 2), (.nm 3)]) (mV 0))
  (sRet (mE [3, 1, 2, 1] (eA gTup (lC (eF F_minus (lC (eV 3) (lC (eA gIx (lC (eA gIx (lC (eV 1) (lC (eC (.int 1)) lN))) (lC (eC (.int 1)) lN))) lN))) (lC (eF F_minus (lC (eV 2) (lC (eA gIx (lC (eA gIx (lC (eV 1) (lC (eC (.int 0)) lN))) (lC (eC (.int 1)) lN))) lN))) lN))))))
def F_gains_of : List D → ER := runF 4 1 G_gains_of
theorem sc_gains_of : FnScope ["record", "seen", "zero", "one"] ["record"] (defScope s_gains_of) := ⟨rfl, rfl, rfl, by decide +kernel, rfl, by decide +kernel, by decide +kernel⟩
theorem ok_gains_of (T : Txt P K mg) : OkD P w K mg base 4 "gains_of" ["record"] F_gains_of := OkD.mk' T.d_gains_of sc_gains_of fun f cdv A outer s H E P0 fz hr => by
  have dx := dx_of (P := P) (w := w) (K := K) (mg := mg) (base := base) (outer := outer) (s := s) (H := H) (E := E) sc_gains_of hr
  exact (dss_cons (ds_asg (dm_v (pv 0)) (dg_tup (by exact dx.calm) (dgs_cons (dg_nm (pg_name (i := 1) (by exact dx.nd) (by rfl) (by first | exact .inl (by rfl) | exact .inr (by rfl)))) (dgs_cons (dg_nm (pg_name (i := 2) (by exact dx.nd) (by rfl) (by first | exact .inl (by rfl) | exact .inr (by rfl)))) (dgs_cons (dg_nm (pg_name (i := 3) (by exact dx.nd) (by rfl) (by first | exact .inl (by rfl) | exact .inr (by rfl)))) dgs_nil)))))
  (dss_one (ds_ret (dm_e (de_tup (da_cons (de_callO dx (ok_minus T) (by decide) (by rfl) (da_cons (de_v (pv 3)) (da_cons (de_ix (de_ix (de_v (pv 1)) de_int (by intro _ _; rfl)) de_int (by intro _ _; rfl)) da_nil))) (da_cons (de_callO dx (ok_minus T) (by decide) (by rfl) (da_cons (de_v (pv 2)) (da_cons (de_ix (de_ix (de_v (pv 1)) de_int (by intro _ _; rfl)) de_int (by intro _ _; rfl)) da_nil))) da_nil)))))))
def G_is_fraction : Sv :=
  (sRet (mE [0, 0, 0] (eAnd (eA gGt (lC (eA gIx (lC (eV 0) (lC (eC (.int 1)) lN))) (lC (eC (.int 0)) lN))) (eA gEq (lC (eA gGcd (lC (eA gIx (lC (eV 0) (lC (eC (.int 0)) lN))) (lC (eA gIx (lC (eV 0) (lC (eC (.int 1)) lN))) lN))) (lC (eC (.int 1)) lN))))))
def F_is_fraction : List D → ER := runF 1 1 G_is_fraction
theorem sc_is_fraction : FnScope ["told"] ["told"] (defScope s_is_fraction) := ⟨rfl, rfl, rfl, by decide +kernel, rfl, by decide +kernel, by decide +kernel⟩
theorem ok_is_fraction (T : Txt P K mg) : OkD P w K mg base 2 "is_fraction" ["told"] F_is_fraction := OkD.mk' T.d_is_fraction sc_is_fraction fun f cdv A outer s H E P0 fz hr => by
  have dx := dx_of (P := P) (w := w) (K := K) (mg := mg) (base := base) (outer := outer) (s := s) (H := H) (E := E) sc_is_fraction hr
  exact (dss_one (ds_ret (dm_e (de_and (de_cmp op_gt' NoX.i2 (de_ix (de_v (pv 0)) de_int (by intro _ _; rfl)) de_int (nomark _)) (de_one (de_cmp (op_eq' (by exact dx.rm.units)) NoX.eq (de_callM call_gcd' NoX.gcd (by rfl) (by exact T.n_gcd) (da_cons (de_ix (de_v (pv 0)) de_int (by intro _ _; rfl)) (da_cons (de_ix (de_v (pv 0)) de_int (by intro _ _; rfl)) da_nil))) de_int (nomark _)))))))
def G_is_less : Sv :=
  (sRet (mE [0, 1, 1, 0] (eA gLt (lC (eA gMul (lC (eA gIx (lC (eV 0) (lC (eC (.int 0)) lN))) (lC (eA gIx (lC (eV 1) (lC (eC (.int 1)) lN))) lN))) (lC (eA gMul (lC (eA gIx (lC (eV 1) (lC (eC (.int 0)) lN))) (lC (eA gIx (lC (eV 0) (lC (eC (.int 1)) lN))) lN))) lN)))))
def F_is_less : List D → ER := runF 2 2 G_is_less
theorem sc_is_less : FnScope ["one", "two"] ["one", "two"] (defScope s_is_less) := ⟨rfl, rfl, rfl, by decide +kernel, rfl, by decide +kernel, by decide +kernel⟩
theorem ok_is_less (T : Txt P K mg) : OkD P w K mg base 2 "is_less" ["one", "two"] F_is_less := OkD.mk' T.d_is_less sc_is_less fun f cdv A outer s H E P0 fz hr => by
  have dx := dx_of (P := P) (w := w) (K := K) (mg := mg) (base := base) (outer := outer) (s := s) (H := H) (E := E) sc_is_less hr
  exact (dss_one (ds_ret (dm_e (de_cmp op_lt' NoX.i2 (de_op2 op_mul' NoX.i2 (de_ix (de_v (pv 0)) de_int (by intro _ _; rfl)) (de_ix (de_v (pv 1)) de_int (by intro _ _; rfl))) (de_op2 op_mul' NoX.i2 (de_ix (de_v (pv 1)) de_int (by intro _ _; rfl)) (de_ix (de_v (pv 0)) de_int (by intro _ _; rfl))) (nomark _)))))
def G_is_chance : Sv :=
  (sRet (mE [0, 0, 0] (eAnd (eF F_is_fraction (lC (eV 0) lN)) (eAnd (eA gGe (lC (eA gIx (lC (eV 0) (lC (eC (.int 0)) lN))) (lC (eC (.int 0)) lN))) (eNot (eF F_is_less (lC (eA gTup (lC (eC (.int 1)) (lC (eC (.int 1)) lN))) (lC (eV 0) lN))))))))
def F_is_chance : List D → ER := runF 1 1 G_is_chance
theorem sc_is_chance : FnScope ["told"] ["told"] (defScope s_is_chance) := ⟨rfl, rfl, rfl, by decide +kernel, rfl, by decide +kernel, by decide +kernel⟩
theorem ok_is_chance (T : Txt P K mg) : OkD P w K mg base 3 "is_chance" ["told"] F_is_chance := OkD.mk' T.d_is_chance sc_is_chance fun f cdv A outer s H E P0 fz hr => by
  have dx := dx_of (P := P) (w := w) (K := K) (mg := mg) (base := base) (outer := outer) (s := s) (H := H) (E := E) sc_is_chance hr
  exact (dss_one (ds_ret (dm_e (de_and (de_callO dx (ok_is_fraction T) (by decide) (by rfl) (da_cons (de_v (pv 0)) da_nil)) (de_and (de_cmp op_ge' NoX.i2 (de_ix (de_v (pv 0)) de_int (by intro _ _; rfl)) de_int (nomark _)) (de_one (de_not (de_callO dx (ok_is_less T) (by decide) (by rfl) (da_cons (de_tup (da_cons de_int (da_cons de_int da_nil))) (da_cons (de_v (pv 0)) da_nil))))))))))
def G_plus : Sv :=
  (sRet (mE [0, 1, 1, 0, 0, 1] (eF F_fraction (lC (eA gAdd (lC (eA gMul (lC (eA gIx (lC (eV 0) (lC (eC (.int 0)) lN))) (lC (eA gIx (lC (eV 1) (lC (eC (.int 1)) lN))) lN))) (lC (eA gMul (lC (eA gIx (lC (eV 1) (lC (eC (.int 0)) lN))) (lC (eA gIx (lC (eV 0) (lC (eC (.int 1)) lN))) lN))) lN))) (lC (eA gMul (lC (eA gIx (lC (eV 0) (lC (eC (.int 1)) lN))) (lC (eA gIx (lC (eV 1) (lC (eC (.int 1)) lN))) lN))) lN)))))
def F_plus : List D → ER := runF 2 2 G_plus
theorem sc_plus : FnScope ["one", "two"] ["one", "two"] (defScope s_plus) := ⟨rfl, rfl, rfl, by decide +kernel, rfl, by decide +kernel, by decide +kernel⟩
theorem ok_plus (T : Txt P K mg) : OkD P w K mg base 3 "plus" ["one", "two"] F_plus := OkD.mk' T.d_plus sc_plus fun f cdv A outer s H E P0 fz hr => by
  have dx := dx_of (P := P) (w := w) (K := K) (mg := mg) (base := base) (outer := outer) (s := s) (H := H) (E := E) sc_plus hr
  exact (dss_one (ds_ret (dm_e (de_callO dx (ok_fraction T) (by decide) (by rfl) (da_cons (de_op2 op_add' NoX.add (de_op2 op_mul' NoX.i2 (de_ix (de_v (pv 0)) de_int (by intro _ _; rfl)) (de_ix (de_v (pv 1)) de_int (by intro _ _; rfl))) (de_op2 op_mul' NoX.i2 (de_ix (de_v (pv 1)) de_int (by intro _ _; rfl)) (de_ix (de_v (pv 0)) de_int (by intro _ _; rfl)))) (da_cons (de_op2 op_mul' NoX.i2 (de_ix (de_v (pv 0)) de_int (by intro _ _; rfl)) (de_ix (de_v (pv 1)) de_int (by intro _ _; rfl))) da_nil))))))
def B_total_1 : Sv := (sSet 1 (mE [1, 2] (eF F_plus (lC (eV 1) (lC (eV 2) lN)))))
def G_total : Sv :=
  (sSeq (sSet 1 (mE [] (eA gTup (lC (eC (.int 0)) (lC (eC (.int 1)) lN)))))
  (sSeq (sFor [0] (lC (eV 0) lN) giSeq (.nm 2)
   B_total_1)
  (sRet (mV 1))))
def F_total : List D → ER := runF 3 1 G_total
theorem sc_total : FnScope ["told", "found", "one"] ["told"] (defScope s_total) := ⟨rfl, rfl, rfl, by decide +kernel, rfl, by decide +kernel, by decide +kernel⟩
theorem ok_total (T : Txt P K mg) : OkD P w K mg base 4 "total" ["told"] F_total := OkD.mk' T.d_total sc_total fun f cdv A outer s H E P0 fz hr => by
  have dx := dx_of (P := P) (w := w) (K := K) (mg := mg) (base := base) (outer := outer) (s := s) (H := H) (E := E) sc_total hr
  exact (dss_cons (ds_set (i := 1) (by exact dx.nd) (by rfl) (by first | exact .inl (by rfl) | exact .inr (by rfl)) (dm_e (de_tup (da_cons de_int (da_cons de_int da_nil)))))
  (dss_cons (ds_for (passes_of rfl) (by exact dx.calm) (di_seq (de_v (pv 0))) (dg_nm (pg_name (i := 2) (by exact dx.nd) (by rfl) (by first | exact .inl (by rfl) | exact .inr (by rfl))))
   (dss_one (ds_set (i := 1) (by exact dx.nd) (by rfl) (by first | exact .inl (by rfl) | exact .inr (by rfl)) (dm_e (de_callO dx (ok_plus T) (by decide) (by rfl) (da_cons (de_v (pv 1)) (da_cons (de_v (pv 2)) da_nil)))))))
  (dss_one (ds_ret (dm_v (pv 1))))))
def B_check_record_1 : Sv := (sIf (eOr (eA gLt (lC (eA gIx (lC (eV 7) (lC (eC (.int 0)) lN))) (lC (eC (.int 0)) lN))) (eF F_is_less (lC (eF F_total (lC (eA gIx (lC (eV 1) (lC (eV 6) lN))) lN)) (lC (eV 7) lN))))
    (sRaise "Unfit" (eC (.int 0)))
    sNx)
def G_check_record : Sv :=
  (sSeq (sAsg (.tp [(.nm 1), (.nm 2), (.nm 3)]) (mE [0] (eV 0)))
  (sSeq (sIf (eOr (eA gNe (lC (eA gLen (lC (eV 1) lN)) (lC (eC (.int 2)) lN))) (eNot (eA gAll (lC (eLc (lC (eV 1) lN) giSeq (.nm 5) [5] cYes (eAnd (eA gEq (lC (eA gLen (lC (eV 5) lN)) (lC (eC (.int 2)) lN))) (eA gAll (lC (eLc (lC (eV 5) lN) giSeq (.nm 4) [4] cYes (eF F_is_chance (lC (eV 4) lN))) lN)))) lN))))
   (sRaise "BadRecord" (eC (.int 0)))
   sNx)
  (sSeq (sIf (eOr (eA gNe (lC (eF F_total (lC (eA gAdd (lC (eA gIx (lC (eV 1) (lC (eC (.int 0)) lN))) (lC (eA gIx (lC (eV 1) (lC (eC (.int 1)) lN))) lN))) lN)) (lC (eA gTup (lC (eC (.int 1)) (lC (eC (.int 1)) lN))) lN))) (eOr (eNot (eF F_is_chance (lC (eV 2) lN))) (eNot (eF F_is_chance (lC (eV 3) lN)))))
   (sRaise "BadRecord" (eC (.int 0)))
   sNx)
  (sFor [0] (lC (eF F_gains_of (lC (eV 0) lN)) lN) giEnum (.tp [(.nm 6), (.nm 7)])
   B_check_record_1))))
def F_check_record : List D → ER := runF 8 1 G_check_record
theorem sc_check_record : FnScope ["record", "seen", "zero", "one", "share", "row", "x", "gain"] ["record"] (defScope s_check_record) := ⟨rfl, rfl, rfl, by decide +kernel, rfl, by decide +kernel, by decide +kernel⟩
theorem ok_check_record (T : Txt P K mg) : OkD P w K mg base 5 "check_record" ["record"] F_check_record := OkD.mk' T.d_check_record sc_check_record fun f cdv A outer s H E P0 fz hr => by
  have dx := dx_of (P := P) (w := w) (K := K) (mg := mg) (base := base) (outer := outer) (s := s) (H := H) (E := E) sc_check_record hr
  exact (dss_cons (ds_asg (dm_e (de_v (pv 0))) (dg_tup (by exact dx.calm) (dgs_cons (dg_nm (pg_name (i := 1) (by exact dx.nd) (by rfl) (by first | exact .inl (by rfl) | exact .inr (by rfl)))) (dgs_cons (dg_nm (pg_name (i := 2) (by exact dx.nd) (by rfl) (by first | exact .inl (by rfl) | exact .inr (by rfl)))) (dgs_cons (dg_nm (pg_name (i := 3) (by exact dx.nd) (by rfl) (by first | exact .inl (by rfl) | exact .inr (by rfl)))) dgs_nil)))))
  (dss_cons (ds_if (PW.pt (dw_or (dt_cmp (op_ne' (by exact dx.rm.units)) NoX.ne (de_callB call_len' NoX.len (by rfl) (by exact T.n_len) boot_len (da_cons (de_v (pv 1)) da_nil)) de_int (nomark _)) (dw_or1 (dt_not (dt_val (de_callB (call_all' (by exact dx.calm)) NoX.all (by rfl) (by exact T.n_all) boot_all (da_cons (de_lc dx (di_seq (de_v (pv 1))) (own := [("row", 5)]) (blkOk_by (by kernel_rfl)) (by simp [Tg.slots, tgSlots]) (fun s1 H1 C1 cl1 fp1 => (dgv_nm (pg_name (i := 5) (by exact dx.nd) (by rfl) (by first | exact .inl (by rfl) | exact .inr (by rfl))))) (fun s1 H1 C1 cl1 fp1 => dts_nil) (fun s1 H1 C1 cl1 fp1 => (de_and (de_cmp (op_eq' (by exact dx.rm.units)) NoX.eq (de_callB call_len' NoX.len (by rfl) (by exact T.n_len) boot_len (da_cons (de_v (pv 5)) da_nil)) de_int (nomark _)) (de_one (de_callB (call_all' (by exact dx.calm)) NoX.all (by rfl) (by exact T.n_all) boot_all (da_cons (de_lc (dx_blk dx s1 H1 _ _ fp1) (di_seq (de_v (pv 5))) (own := [("share", 4)]) (blkOk_by (by kernel_rfl)) (by simp [Tg.slots, tgSlots]) (fun s2 H2 C2 cl2 fp2 => (dgv_nm (pg_name (i := 4) (by exact dx.nd) (by rfl) (by first | exact .inl (by rfl) | exact .inr (by rfl))))) (fun s2 H2 C2 cl2 fp2 => dts_nil) (fun s2 H2 C2 cl2 fp2 => (de_callO (dx_blk (dx_blk dx s1 H1 _ _ fp1) s2 H2 _ _ fp2) (ok_is_chance T) (by decide) (by rfl) (da_cons (de_v (pv 4)) da_nil)))) da_nil)))))) da_nil)))))))
   (dss_one (ds_raiseO dx rfl T.c_BadRecord de_int (by rfl)))
   dss_nil)
  (dss_cons (ds_if (PW.pt (dw_or (dt_cmp (op_ne' (by exact dx.rm.units)) NoX.ne (de_callO dx (ok_total T) (by decide) (by rfl) (da_cons (de_op2 op_add' NoX.add (de_ix (de_v (pv 1)) de_int (by intro _ _; rfl)) (de_ix (de_v (pv 1)) de_int (by intro _ _; rfl))) da_nil)) (de_tup (da_cons de_int (da_cons de_int da_nil))) (nomark _)) (dw_or (dt_not (dt_val (de_callO dx (ok_is_chance T) (by decide) (by rfl) (da_cons (de_v (pv 2)) da_nil)))) (dw_or1 (dt_not (dt_val (de_callO dx (ok_is_chance T) (by decide) (by rfl) (da_cons (de_v (pv 3)) da_nil))))))))
   (dss_one (ds_raiseO dx rfl T.c_BadRecord de_int (by rfl)))
   dss_nil)
  (dss_one (ds_for (passes_of rfl) (by exact dx.calm) (di_enum (by rfl) (by exact T.n_enumerate) (da_cons (de_callO dx (ok_gains_of T) (by decide) (by rfl) (da_cons (de_v (pv 0)) da_nil)) da_nil)) (dg_tup (by exact dx.calm) (dgs_cons (dg_nm (pg_name (i := 6) (by exact dx.nd) (by rfl) (by first | exact .inl (by rfl) | exact .inr (by rfl)))) (dgs_cons (dg_nm (pg_name (i := 7) (by exact dx.nd) (by rfl) (by first | exact .inl (by rfl) | exact .inr (by rfl)))) dgs_nil)))
   (dss_one (ds_if (PW.pt (dw_or (dt_cmp op_lt' NoX.i2 (de_ix (de_v (pv 7)) de_int (by intro _ _; rfl)) de_int (nomark _)) (dw_or1 (dt_val (de_callO dx (ok_is_less T) (by decide) (by rfl) (da_cons (de_callO dx (ok_total T) (by decide) (by rfl) (da_cons (de_ix (de_v (pv 1)) (de_v (pv 6)) (by intro _ _; rfl)) da_nil)) (da_cons (de_v (pv 7)) da_nil)))))))
    (dss_one (ds_raiseO dx rfl T.c_Unfit de_int (by rfl)))
    dss_nil)))))))
def G_greater : Sv :=
  (sRet (mE [0, 1, 1, 0] (eIf (eF F_is_less (lC (eV 0) (lC (eV 1) lN))) (eV 1) (eV 0))))
def F_greater : List D → ER := runF 2 2 G_greater
theorem sc_greater : FnScope ["one", "two"] ["one", "two"] (defScope s_greater) := ⟨rfl, rfl, rfl, by decide +kernel, rfl, by decide +kernel, by decide +kernel⟩
theorem ok_greater (T : Txt P K mg) : OkD P w K mg base 3 "greater" ["one", "two"] F_greater := OkD.mk' T.d_greater sc_greater fun f cdv A outer s H E P0 fz hr => by
  have dx := dx_of (P := P) (w := w) (K := K) (mg := mg) (base := base) (outer := outer) (s := s) (H := H) (E := E) sc_greater hr
  exact (dss_one (ds_ret (dm_e (de_if (dt_val (de_callO dx (ok_is_less T) (by decide) (by rfl) (da_cons (de_v (pv 0)) (da_cons (de_v (pv 1)) da_nil)))) (de_v (pv 1)) (de_v (pv 0))))))
def G_lesser : Sv :=
  (sRet (mE [0, 1, 0, 1] (eIf (eF F_is_less (lC (eV 0) (lC (eV 1) lN))) (eV 0) (eV 1))))
def F_lesser : List D → ER := runF 2 2 G_lesser
theorem sc_lesser : FnScope ["one", "two"] ["one", "two"] (defScope s_lesser) := ⟨rfl, rfl, rfl, by decide +kernel, rfl, by decide +kernel, by decide +kernel⟩
theorem ok_lesser (T : Txt P K mg) : OkD P w K mg base 3 "lesser" ["one", "two"] F_lesser := OkD.mk' T.d_lesser sc_lesser fun f cdv A outer s H E P0 fz hr => by
  have dx := dx_of (P := P) (w := w) (K := K) (mg := mg) (base := base) (outer := outer) (s := s) (H := H) (E := E) sc_lesser hr
  exact (dss_one (ds_ret (dm_e (de_if (dt_val (de_callO dx (ok_is_less T) (by decide) (by rfl) (da_cons (de_v (pv 0)) (da_cons (de_v (pv 1)) da_nil)))) (de_v (pv 0)) (de_v (pv 1))))))
def G_helped : Sv :=
  (sSeq (sAsg (.tp [(.nm 1), (.nm 2), (.nm 2)]) (mE [0] (eV 0)))
  (sSeq (sAsg (.tp [(.nm 3), (.nm 4)]) (mE [0] (eF F_gains_of (lC (eV 0) lN))))
  (sSeq (sSet 5 (mE [3, 1, 1, 3] (eA gTup (lC (eF F_greater (lC (eA gTup (lC (eC (.int 0)) (lC (eC (.int 1)) lN))) (lC (eF F_minus (lC (eV 3) (lC (eA gIx (lC (eA gIx (lC (eV 1) (lC (eC (.int 0)) lN))) (lC (eC (.int 1)) lN))) lN))) lN))) (lC (eF F_lesser (lC (eA gIx (lC (eA gIx (lC (eV 1) (lC (eC (.int 0)) lN))) (lC (eC (.int 0)) lN))) (lC (eV 3) lN))) lN)))))
  (sSeq (sSet 6 (mE [1, 4] (eF F_minus (lC (eF F_total (lC (eA gIx (lC (eV 1) (lC (eC (.int 1)) lN))) lN)) (lC (eV 4) lN)))))
  (sSeq (sSet 7 (mE [1, 4, 1, 6] (eA gTup (lC (eF F_greater (lC (eA gTup (lC (eC (.int 0)) (lC (eC (.int 1)) lN))) (lC (eF F_minus (lC (eA gIx (lC (eA gIx (lC (eV 1) (lC (eC (.int 1)) lN))) (lC (eC (.int 1)) lN))) (lC (eV 4) lN))) lN))) (lC (eF F_lesser (lC (eA gIx (lC (eA gIx (lC (eV 1) (lC (eC (.int 1)) lN))) (lC (eC (.int 1)) lN))) (lC (eV 6) lN))) lN)))))
  (sRet (mTup (mC (mV 5) (mC (mV 7) mN)))))))))
def F_helped : List D → ER := runF 8 1 G_helped
theorem sc_helped : FnScope ["record", "seen", "_", "first", "second", "zero", "rest", "one"] ["record"] (defScope s_helped) := ⟨rfl, rfl, rfl, by decide +kernel, rfl, by decide +kernel, by decide +kernel⟩
theorem ok_helped (T : Txt P K mg) : OkD P w K mg base 5 "helped" ["record"] F_helped := OkD.mk' T.d_helped sc_helped fun f cdv A outer s H E P0 fz hr => by
  have dx := dx_of (P := P) (w := w) (K := K) (mg := mg) (base := base) (outer := outer) (s := s) (H := H) (E := E) sc_helped hr
  exact (dss_cons (ds_asg (dm_e (de_v (pv 0))) (dg_tup (by exact dx.calm) (dgs_cons (dg_nm (pg_name (i := 1) (by exact dx.nd) (by rfl) (by first | exact .inl (by rfl) | exact .inr (by rfl)))) (dgs_cons (dg_nm (pg_name (i := 2) (by exact dx.nd) (by rfl) (by first | exact .inl (by rfl) | exact .inr (by rfl)))) (dgs_cons (dg_nm (pg_name (i := 2) (by exact dx.nd) (by rfl) (by first | exact .inl (by rfl) | exact .inr (by rfl)))) dgs_nil)))))
  (dss_cons (ds_asg (dm_e (de_callO dx (ok_gains_of T) (by decide) (by rfl) (da_cons (de_v (pv 0)) da_nil))) (dg_tup (by exact dx.calm) (dgs_cons (dg_nm (pg_name (i := 3) (by exact dx.nd) (by rfl) (by first | exact .inl (by rfl) | exact .inr (by rfl)))) (dgs_cons (dg_nm (pg_name (i := 4) (by exact dx.nd) (by rfl) (by first | exact .inl (by rfl) | exact .inr (by rfl)))) dgs_nil))))
  (dss_cons (ds_set (i := 5) (by exact dx.nd) (by rfl) (by first | exact .inl (by rfl) | exact .inr (by rfl)) (dm_e (de_tup (da_cons (de_callO dx (ok_greater T) (by decide) (by rfl) (da_cons (de_tup (da_cons de_int (da_cons de_int da_nil))) (da_cons (de_callO dx (ok_minus T) (by decide) (by rfl) (da_cons (de_v (pv 3)) (da_cons (de_ix (de_ix (de_v (pv 1)) de_int (by intro _ _; rfl)) de_int (by intro _ _; rfl)) da_nil))) da_nil))) (da_cons (de_callO dx (ok_lesser T) (by decide) (by rfl) (da_cons (de_ix (de_ix (de_v (pv 1)) de_int (by intro _ _; rfl)) de_int (by intro _ _; rfl)) (da_cons (de_v (pv 3)) da_nil))) da_nil)))))
  (dss_cons (ds_set (i := 6) (by exact dx.nd) (by rfl) (by first | exact .inl (by rfl) | exact .inr (by rfl)) (dm_e (de_callO dx (ok_minus T) (by decide) (by rfl) (da_cons (de_callO dx (ok_total T) (by decide) (by rfl) (da_cons (de_ix (de_v (pv 1)) de_int (by intro _ _; rfl)) da_nil)) (da_cons (de_v (pv 4)) da_nil)))))
  (dss_cons (ds_set (i := 7) (by exact dx.nd) (by rfl) (by first | exact .inl (by rfl) | exact .inr (by rfl)) (dm_e (de_tup (da_cons (de_callO dx (ok_greater T) (by decide) (by rfl) (da_cons (de_tup (da_cons de_int (da_cons de_int da_nil))) (da_cons (de_callO dx (ok_minus T) (by decide) (by rfl) (da_cons (de_ix (de_ix (de_v (pv 1)) de_int (by intro _ _; rfl)) de_int (by intro _ _; rfl)) (da_cons (de_v (pv 4)) da_nil))) da_nil))) (da_cons (de_callO dx (ok_lesser T) (by decide) (by rfl) (da_cons (de_ix (de_ix (de_v (pv 1)) de_int (by intro _ _; rfl)) de_int (by intro _ _; rfl)) (da_cons (de_v (pv 6)) da_nil))) da_nil)))))
  (dss_one (ds_ret (dm_tup (dml_cons (dm_v (pv 5)) (dml_cons (dm_v (pv 7)) dml_nil))))))))))
def G_over : Sv :=
  (sRet (mE [0, 1, 0, 1] (eF F_fraction (lC (eA gMul (lC (eA gIx (lC (eV 0) (lC (eC (.int 0)) lN))) (lC (eA gIx (lC (eV 1) (lC (eC (.int 1)) lN))) lN))) (lC (eA gMul (lC (eA gIx (lC (eV 0) (lC (eC (.int 1)) lN))) (lC (eA gIx (lC (eV 1) (lC (eC (.int 0)) lN))) lN))) lN)))))
def F_over : List D → ER := runF 2 2 G_over
theorem sc_over : FnScope ["one", "two"] ["one", "two"] (defScope s_over) := ⟨rfl, rfl, rfl, by decide +kernel, rfl, by decide +kernel, by decide +kernel⟩
theorem ok_over (T : Txt P K mg) : OkD P w K mg base 3 "over" ["one", "two"] F_over := OkD.mk' T.d_over sc_over fun f cdv A outer s H E P0 fz hr => by
  have dx := dx_of (P := P) (w := w) (K := K) (mg := mg) (base := base) (outer := outer) (s := s) (H := H) (E := E) sc_over hr
  exact (dss_one (ds_ret (dm_e (de_callO dx (ok_fraction T) (by decide) (by rfl) (da_cons (de_op2 op_mul' NoX.i2 (de_ix (de_v (pv 0)) de_int (by intro _ _; rfl)) (de_ix (de_v (pv 1)) de_int (by intro _ _; rfl))) (da_cons (de_op2 op_mul' NoX.i2 (de_ix (de_v (pv 0)) de_int (by intro _ _; rfl)) (de_ix (de_v (pv 1)) de_int (by intro _ _; rfl))) da_nil))))))
def G_ends_of : Sv :=
  (sSeq (sAsg (.tp [(.nm 2), (.nm 3), (.nm 3)]) (mE [0] (eV 0)))
  (sSeq (sAsg (.tp [(.nm 4), (.nm 5)]) (mE [0] (eF F_helped (lC (eV 0) lN))))
  (sSeq (sIf (eA gEq (lC (eV 1) (lC (eC (.str "both")) lN)))
   (sRet (mE [4, 5, 4, 5] (eA gTup (lC (eF F_plus (lC (eA gIx (lC (eV 4) (lC (eC (.int 0)) lN))) (lC (eA gIx (lC (eV 5) (lC (eC (.int 0)) lN))) lN))) (lC (eF F_plus (lC (eA gIx (lC (eV 4) (lC (eC (.int 1)) lN))) (lC (eA gIx (lC (eV 5) (lC (eC (.int 1)) lN))) lN))) lN)))))
   sNx)
  (sSeq (sSet 6 (mE [1, 5, 4] (eIf (eA gEq (lC (eV 1) (lC (eC (.str "needed")) lN))) (eV 5) (eV 4))))
  (sSeq (sSet 7 (mE [1, 2, 2] (eIf (eA gEq (lC (eV 1) (lC (eC (.str "needed")) lN))) (eA gIx (lC (eA gIx (lC (eV 2) (lC (eC (.int 1)) lN))) (lC (eC (.int 1)) lN))) (eA gIx (lC (eA gIx (lC (eV 2) (lC (eC (.int 0)) lN))) (lC (eC (.int 0)) lN))))))
  (sSeq (sIf (eA gEq (lC (eA gIx (lC (eV 7) (lC (eC (.int 0)) lN))) (lC (eC (.int 0)) lN)))
   (sRet (mE [] (eC .non)))
   sNx)
  (sRet (mE [6, 7, 6, 7] (eA gTup (lC (eF F_over (lC (eA gIx (lC (eV 6) (lC (eC (.int 0)) lN))) (lC (eV 7) lN))) (lC (eF F_over (lC (eA gIx (lC (eV 6) (lC (eC (.int 1)) lN))) (lC (eV 7) lN))) lN)))))))))))
def F_ends_of : List D → ER := runF 8 2 G_ends_of
theorem sc_ends_of : FnScope ["record", "word", "seen", "_", "zero", "one", "part", "whole"] ["record", "word"] (defScope s_ends_of) := ⟨rfl, rfl, rfl, by decide +kernel, rfl, by decide +kernel, by decide +kernel⟩
theorem ok_ends_of (T : Txt P K mg) : OkD P w K mg base 6 "ends_of" ["record", "word"] F_ends_of := OkD.mk' T.d_ends_of sc_ends_of fun f cdv A outer s H E P0 fz hr => by
  have dx := dx_of (P := P) (w := w) (K := K) (mg := mg) (base := base) (outer := outer) (s := s) (H := H) (E := E) sc_ends_of hr
  exact (dss_cons (ds_asg (dm_e (de_v (pv 0))) (dg_tup (by exact dx.calm) (dgs_cons (dg_nm (pg_name (i := 2) (by exact dx.nd) (by rfl) (by first | exact .inl (by rfl) | exact .inr (by rfl)))) (dgs_cons (dg_nm (pg_name (i := 3) (by exact dx.nd) (by rfl) (by first | exact .inl (by rfl) | exact .inr (by rfl)))) (dgs_cons (dg_nm (pg_name (i := 3) (by exact dx.nd) (by rfl) (by first | exact .inl (by rfl) | exact .inr (by rfl)))) dgs_nil)))))
  (dss_cons (ds_asg (dm_e (de_callO dx (ok_helped T) (by decide) (by rfl) (da_cons (de_v (pv 0)) da_nil))) (dg_tup (by exact dx.calm) (dgs_cons (dg_nm (pg_name (i := 4) (by exact dx.nd) (by rfl) (by first | exact .inl (by rfl) | exact .inr (by rfl)))) (dgs_cons (dg_nm (pg_name (i := 5) (by exact dx.nd) (by rfl) (by first | exact .inl (by rfl) | exact .inr (by rfl)))) dgs_nil))))
  (dss_cons (ds_if (dt_cmp (op_eq' (by exact dx.rm.units)) NoX.eq (de_v (pv 1)) de_str (nomark _))
   (dss_one (ds_ret (dm_e (de_tup (da_cons (de_callO dx (ok_plus T) (by decide) (by rfl) (da_cons (de_ix (de_v (pv 4)) de_int (by intro _ _; rfl)) (da_cons (de_ix (de_v (pv 5)) de_int (by intro _ _; rfl)) da_nil))) (da_cons (de_callO dx (ok_plus T) (by decide) (by rfl) (da_cons (de_ix (de_v (pv 4)) de_int (by intro _ _; rfl)) (da_cons (de_ix (de_v (pv 5)) de_int (by intro _ _; rfl)) da_nil))) da_nil))))))
   dss_nil)
  (dss_cons (ds_set (i := 6) (by exact dx.nd) (by rfl) (by first | exact .inl (by rfl) | exact .inr (by rfl)) (dm_e (de_if (dt_cmp (op_eq' (by exact dx.rm.units)) NoX.eq (de_v (pv 1)) de_str (nomark _)) (de_v (pv 5)) (de_v (pv 4)))))
  (dss_cons (ds_set (i := 7) (by exact dx.nd) (by rfl) (by first | exact .inl (by rfl) | exact .inr (by rfl)) (dm_e (de_if (dt_cmp (op_eq' (by exact dx.rm.units)) NoX.eq (de_v (pv 1)) de_str (nomark _)) (de_ix (de_ix (de_v (pv 2)) de_int (by intro _ _; rfl)) de_int (by intro _ _; rfl)) (de_ix (de_ix (de_v (pv 2)) de_int (by intro _ _; rfl)) de_int (by intro _ _; rfl)))))
  (dss_cons (ds_if (dt_cmp (op_eq' (by exact dx.rm.units)) NoX.eq (de_ix (de_v (pv 7)) de_int (by intro _ _; rfl)) de_int (nomark _))
   (dss_one (ds_ret (dm_e de_non)))
   dss_nil)
  (dss_one (ds_ret (dm_e (de_tup (da_cons (de_callO dx (ok_over T) (by decide) (by rfl) (da_cons (de_ix (de_v (pv 6)) de_int (by intro _ _; rfl)) (da_cons (de_v (pv 7)) da_nil))) (da_cons (de_callO dx (ok_over T) (by decide) (by rfl) (da_cons (de_ix (de_v (pv 6)) de_int (by intro _ _; rfl)) (da_cons (de_v (pv 7)) da_nil))) da_nil))))))))))))
def G_ends : Sv :=
  (sSeq (sDrop (mE [0] (eF F_check_record (lC (eV 0) lN))))
  (sRet (mE [0, 1] (eF F_ends_of (lC (eV 0) (lC (eV 1) lN))))))
def F_ends : List D → ER := runF 2 2 G_ends
theorem sc_ends : FnScope ["record", "word"] ["record", "word"] (defScope s_ends) := ⟨rfl, rfl, rfl, by decide +kernel, rfl, by decide +kernel, by decide +kernel⟩
theorem ok_ends (T : Txt P K mg) : OkD P w K mg base 7 "ends" ["record", "word"] F_ends := OkD.mk' T.d_ends sc_ends fun f cdv A outer s H E P0 fz hr => by
  have dx := dx_of (P := P) (w := w) (K := K) (mg := mg) (base := base) (outer := outer) (s := s) (H := H) (E := E) sc_ends hr
  exact (dss_cons (ds_drop (dm_e (de_callO dx (ok_check_record T) (by decide) (by rfl) (da_cons (de_v (pv 0)) da_nil))))
  (dss_one (ds_ret (dm_e (de_callO dx (ok_ends_of T) (by decide) (by rfl) (da_cons (de_v (pv 0)) (da_cons (de_v (pv 1)) da_nil)))))))
def G_l_word : Sv :=
  (sSeq (sTry (sDrop (mE [0] (eF F_ends (lC (eV 0) (lC (eC (.str "both")) lN))))) tb_l_word_1 [(1, (fun n => .tup [.str "record", .int n])), (1, (fun n => .tup [.str "unfit", .int n]))])
  (sRet (mE [] (eA gTup (lC (eC (.str "none")) (lC (eC (.int 0)) lN))))))
def F_l_word : List D → ER := runF 2 1 G_l_word
theorem sc_l_word : FnScope ["record", "e"] ["record"] (defScope s_l_word) := ⟨rfl, rfl, rfl, by decide +kernel, rfl, by decide +kernel, by decide +kernel⟩
theorem ok_l_word (T : Txt P K mg) : OkD P w K mg base 8 "_law_word" ["record"] F_l_word := OkD.mk' T.d_l_word sc_l_word fun f cdv A outer s H E P0 fz hr => by
  have dx := dx_of (P := P) (w := w) (K := K) (mg := mg) (base := base) (outer := outer) (s := s) (H := H) (E := E) sc_l_word hr
  exact (dss_cons (ds_try dx rfl rfl rfl rfl (fun W1 pn1 xe1 tk1 hp1 => (dss_one (ds_drop (dm_e (de_callO (dx_tr dx tk1) (ok_ends T) (by decide) (by rfl) (da_cons (de_v (pv 0)) (da_cons de_str da_nil))))))) (.cons (i := 1) rfl rfl (names_way T.c_BadRecord rfl) (su_tup (fun _ _ _ => pv 1)) (.cons (i := 1) rfl rfl (names_way T.c_Unfit rfl) (su_tup (fun _ _ _ => pv 1)) .nil)) (T.tb_l_word_1))
  (dss_one (ds_ret (dm_e (de_tup (da_cons de_str (da_cons de_int da_nil)))))))
def G_are_types : Sv :=
  (sSeq (sDrop (mE [0] (eF F_check_record (lC (eV 0) lN))))
  (sSeq (sIf (eOr (eA gNe (lC (eA gLen (lC (eV 1) lN)) (lC (eC (.int 2)) lN))) (eNot (eA gAll (lC (eLc (lC (eV 1) lN) giSeq (.nm 2) [2] cYes (eA gEq (lC (eA gLen (lC (eV 2) lN)) (lC (eC (.int 4)) lN)))) lN))))
   (sRet (mE [] (eC (.bl false))))
   sNx)
  (sSeq (sIf (eNot (eA gAll (lC (eLc2 (lC (eV 1) lN) giSeq (.nm 2) [2, 3] cYes (lC (eV 2) lN) giSeq (.nm 3) [3] cYes (eF F_is_chance (lC (eV 3) lN))) lN)))
   (sRet (mE [] (eC (.bl false))))
   sNx)
  (sSeq (sAsg (.tp [(.nm 4), (.nm 5), (.nm 6)]) (mV 0))
  (sSeq (sAsg (.tp [(.nm 7), (.nm 8)]) (mV 1))
  (sSeq (sIf (eA gNe (lC (eA gLst (lC (eF F_plus (lC (eA gIx (lC (eV 7) (lC (eC (.int 0)) lN))) (lC (eA gIx (lC (eV 7) (lC (eC (.int 1)) lN))) lN))) (lC (eF F_plus (lC (eA gIx (lC (eV 7) (lC (eC (.int 2)) lN))) (lC (eA gIx (lC (eV 7) (lC (eC (.int 3)) lN))) lN))) lN))) (lC (eA gIx (lC (eV 4) (lC (eC (.int 0)) lN))) lN)))
   (sRet (mE [] (eC (.bl false))))
   sNx)
  (sSeq (sIf (eA gNe (lC (eA gLst (lC (eF F_plus (lC (eA gIx (lC (eV 8) (lC (eC (.int 0)) lN))) (lC (eA gIx (lC (eV 8) (lC (eC (.int 2)) lN))) lN))) (lC (eF F_plus (lC (eA gIx (lC (eV 8) (lC (eC (.int 1)) lN))) (lC (eA gIx (lC (eV 8) (lC (eC (.int 3)) lN))) lN))) lN))) (lC (eA gIx (lC (eV 4) (lC (eC (.int 1)) lN))) lN)))
   (sRet (mE [] (eC (.bl false))))
   sNx)
  (sRet (mE [7, 7, 8, 8, 5, 7, 7, 8, 8, 6] (eAnd (eA gEq (lC (eF F_total (lC (eA gLst (lC (eA gIx (lC (eV 7) (lC (eC (.int 2)) lN))) (lC (eA gIx (lC (eV 7) (lC (eC (.int 3)) lN))) (lC (eA gIx (lC (eV 8) (lC (eC (.int 2)) lN))) (lC (eA gIx (lC (eV 8) (lC (eC (.int 3)) lN))) lN))))) lN)) (lC (eV 5) lN))) (eA gEq (lC (eF F_total (lC (eA gLst (lC (eA gIx (lC (eV 7) (lC (eC (.int 1)) lN))) (lC (eA gIx (lC (eV 7) (lC (eC (.int 3)) lN))) (lC (eA gIx (lC (eV 8) (lC (eC (.int 1)) lN))) (lC (eA gIx (lC (eV 8) (lC (eC (.int 3)) lN))) lN))))) lN)) (lC (eV 6) lN)))))))))))))
def F_are_types : List D → ER := runF 9 2 G_are_types
theorem sc_are_types : FnScope ["record", "told", "row", "share", "seen", "zero", "one", "top", "low"] ["record", "told"] (defScope s_are_types) := ⟨rfl, rfl, rfl, by decide +kernel, rfl, by decide +kernel, by decide +kernel⟩
theorem ok_are_types (T : Txt P K mg) : OkD P w K mg base 6 "are_types" ["record", "told"] F_are_types := OkD.mk' T.d_are_types sc_are_types fun f cdv A outer s H E P0 fz hr => by
  have dx := dx_of (P := P) (w := w) (K := K) (mg := mg) (base := base) (outer := outer) (s := s) (H := H) (E := E) sc_are_types hr
  exact (dss_cons (ds_drop (dm_e (de_callO dx (ok_check_record T) (by decide) (by rfl) (da_cons (de_v (pv 0)) da_nil))))
  (dss_cons (ds_if (PW.pt (dw_or (dt_cmp (op_ne' (by exact dx.rm.units)) NoX.ne (de_callB call_len' NoX.len (by rfl) (by exact T.n_len) boot_len (da_cons (de_v (pv 1)) da_nil)) de_int (nomark _)) (dw_or1 (dt_not (dt_val (de_callB (call_all' (by exact dx.calm)) NoX.all (by rfl) (by exact T.n_all) boot_all (da_cons (de_lc dx (di_seq (de_v (pv 1))) (own := [("row", 2)]) (blkOk_by (by kernel_rfl)) (by simp [Tg.slots, tgSlots]) (fun s1 H1 C1 cl1 fp1 => (dgv_nm (pg_name (i := 2) (by exact dx.nd) (by rfl) (by first | exact .inl (by rfl) | exact .inr (by rfl))))) (fun s1 H1 C1 cl1 fp1 => dts_nil) (fun s1 H1 C1 cl1 fp1 => (de_cmp (op_eq' (by exact dx.rm.units)) NoX.eq (de_callB call_len' NoX.len (by rfl) (by exact T.n_len) boot_len (da_cons (de_v (pv 2)) da_nil)) de_int (nomark _)))) da_nil)))))))
   (dss_one (ds_ret (dm_e de_bl)))
   dss_nil)
  (dss_cons (ds_if (dt_not (dt_val (de_callB (call_all' (by exact dx.calm)) NoX.all (by rfl) (by exact T.n_all) boot_all (da_cons (de_lc2 (own1 := [3]) dx (di_seq (de_v (pv 1))) (own := [("row", 2), ("share", 3)]) (blkOk_by (by kernel_rfl)) (by simp [Tg.slots, tgSlots]) (by simp [Tg.slots, tgSlots]) (by simp) (fun s2 H2 C2 cl2 fp2 => (dgv_nm (pg_name (i := 2) (by exact dx.nd) (by rfl) (by first | exact .inl (by rfl) | exact .inr (by rfl))))) (fun s2 H2 C2 cl2 fp2 => dts_nil) (fun s2 H2 C2 cl2 fp2 => (di_seq (de_v (pv 2)))) (fun s2 H2 C2 cl2 fp2 => (dgv_nm (pg_name (i := 3) (by exact dx.nd) (by rfl) (by first | exact .inl (by rfl) | exact .inr (by rfl))))) (fun s2 H2 C2 cl2 fp2 => dts_nil) (fun s2 H2 C2 cl2 fp2 => (de_callO (dx_blk dx s2 H2 _ _ fp2) (ok_is_chance T) (by decide) (by rfl) (da_cons (de_v (pv 3)) da_nil)))) da_nil))))
   (dss_one (ds_ret (dm_e de_bl)))
   dss_nil)
  (dss_cons (ds_asg (dm_v (pv 0)) (dg_tup (by exact dx.calm) (dgs_cons (dg_nm (pg_name (i := 4) (by exact dx.nd) (by rfl) (by first | exact .inl (by rfl) | exact .inr (by rfl)))) (dgs_cons (dg_nm (pg_name (i := 5) (by exact dx.nd) (by rfl) (by first | exact .inl (by rfl) | exact .inr (by rfl)))) (dgs_cons (dg_nm (pg_name (i := 6) (by exact dx.nd) (by rfl) (by first | exact .inl (by rfl) | exact .inr (by rfl)))) dgs_nil)))))
  (dss_cons (ds_asg (dm_v (pv 1)) (dg_tup (by exact dx.calm) (dgs_cons (dg_nm (pg_name (i := 7) (by exact dx.nd) (by rfl) (by first | exact .inl (by rfl) | exact .inr (by rfl)))) (dgs_cons (dg_nm (pg_name (i := 8) (by exact dx.nd) (by rfl) (by first | exact .inl (by rfl) | exact .inr (by rfl)))) dgs_nil))))
  (dss_cons (ds_if (dt_cmp (op_ne' (by exact dx.rm.units)) NoX.ne (de_lst (da_cons (de_callO dx (ok_plus T) (by decide) (by rfl) (da_cons (de_ix (de_v (pv 7)) de_int (by intro _ _; rfl)) (da_cons (de_ix (de_v (pv 7)) de_int (by intro _ _; rfl)) da_nil))) (da_cons (de_callO dx (ok_plus T) (by decide) (by rfl) (da_cons (de_ix (de_v (pv 7)) de_int (by intro _ _; rfl)) (da_cons (de_ix (de_v (pv 7)) de_int (by intro _ _; rfl)) da_nil))) da_nil))) (de_ix (de_v (pv 4)) de_int (by intro _ _; rfl)) (nomark _))
   (dss_one (ds_ret (dm_e de_bl)))
   dss_nil)
  (dss_cons (ds_if (dt_cmp (op_ne' (by exact dx.rm.units)) NoX.ne (de_lst (da_cons (de_callO dx (ok_plus T) (by decide) (by rfl) (da_cons (de_ix (de_v (pv 8)) de_int (by intro _ _; rfl)) (da_cons (de_ix (de_v (pv 8)) de_int (by intro _ _; rfl)) da_nil))) (da_cons (de_callO dx (ok_plus T) (by decide) (by rfl) (da_cons (de_ix (de_v (pv 8)) de_int (by intro _ _; rfl)) (da_cons (de_ix (de_v (pv 8)) de_int (by intro _ _; rfl)) da_nil))) da_nil))) (de_ix (de_v (pv 4)) de_int (by intro _ _; rfl)) (nomark _))
   (dss_one (ds_ret (dm_e de_bl)))
   dss_nil)
  (dss_one (ds_ret (dm_e (de_and (de_cmp (op_eq' (by exact dx.rm.units)) NoX.eq (de_callO dx (ok_total T) (by decide) (by rfl) (da_cons (de_lst (da_cons (de_ix (de_v (pv 7)) de_int (by intro _ _; rfl)) (da_cons (de_ix (de_v (pv 7)) de_int (by intro _ _; rfl)) (da_cons (de_ix (de_v (pv 8)) de_int (by intro _ _; rfl)) (da_cons (de_ix (de_v (pv 8)) de_int (by intro _ _; rfl)) da_nil))))) da_nil)) (de_v (pv 5)) (nomark _)) (de_one (de_cmp (op_eq' (by exact dx.rm.units)) NoX.eq (de_callO dx (ok_total T) (by decide) (by rfl) (da_cons (de_lst (da_cons (de_ix (de_v (pv 7)) de_int (by intro _ _; rfl)) (da_cons (de_ix (de_v (pv 7)) de_int (by intro _ _; rfl)) (da_cons (de_ix (de_v (pv 8)) de_int (by intro _ _; rfl)) (da_cons (de_ix (de_v (pv 8)) de_int (by intro _ _; rfl)) da_nil))))) da_nil)) (de_v (pv 6)) (nomark _))))))))))))))
def G_chance_by : Sv :=
  (sSeq (sAsg (.tp [(.nm 2), (.nm 3)]) (mV 0))
  (sSeq (sIf (eA gEq (lC (eV 1) (lC (eC (.str "both")) lN)))
   (sRet (mE [2, 3] (eF F_plus (lC (eA gIx (lC (eV 2) (lC (eC (.int 1)) lN))) (lC (eA gIx (lC (eV 3) (lC (eC (.int 1)) lN))) lN)))))
   sNx)
  (sSeq (sSet 4 (mE [1, 3, 2] (eIf (eA gEq (lC (eV 1) (lC (eC (.str "needed")) lN))) (eA gIx (lC (eV 3) (lC (eC (.int 1)) lN))) (eA gIx (lC (eV 2) (lC (eC (.int 1)) lN))))))
  (sSeq (sSet 5 (mE [1, 3, 3, 2, 2] (eIf (eA gEq (lC (eV 1) (lC (eC (.str "needed")) lN))) (eF F_plus (lC (eA gIx (lC (eV 3) (lC (eC (.int 1)) lN))) (lC (eA gIx (lC (eV 3) (lC (eC (.int 3)) lN))) lN))) (eF F_plus (lC (eA gIx (lC (eV 2) (lC (eC (.int 0)) lN))) (lC (eA gIx (lC (eV 2) (lC (eC (.int 1)) lN))) lN))))))
  (sSeq (sIf (eA gEq (lC (eA gIx (lC (eV 5) (lC (eC (.int 0)) lN))) (lC (eC (.int 0)) lN)))
   (sRet (mE [] (eC .non)))
   sNx)
  (sRet (mE [4, 5] (eF F_over (lC (eV 4) (lC (eV 5) lN))))))))))
def F_chance_by : List D → ER := runF 6 2 G_chance_by
theorem sc_chance_by : FnScope ["told", "word", "top", "low", "part", "whole"] ["told", "word"] (defScope s_chance_by) := ⟨rfl, rfl, rfl, by decide +kernel, rfl, by decide +kernel, by decide +kernel⟩
theorem ok_chance_by (T : Txt P K mg) : OkD P w K mg base 4 "chance_by" ["told", "word"] F_chance_by := OkD.mk' T.d_chance_by sc_chance_by fun f cdv A outer s H E P0 fz hr => by
  have dx := dx_of (P := P) (w := w) (K := K) (mg := mg) (base := base) (outer := outer) (s := s) (H := H) (E := E) sc_chance_by hr
  exact (dss_cons (ds_asg (dm_v (pv 0)) (dg_tup (by exact dx.calm) (dgs_cons (dg_nm (pg_name (i := 2) (by exact dx.nd) (by rfl) (by first | exact .inl (by rfl) | exact .inr (by rfl)))) (dgs_cons (dg_nm (pg_name (i := 3) (by exact dx.nd) (by rfl) (by first | exact .inl (by rfl) | exact .inr (by rfl)))) dgs_nil))))
  (dss_cons (ds_if (dt_cmp (op_eq' (by exact dx.rm.units)) NoX.eq (de_v (pv 1)) de_str (nomark _))
   (dss_one (ds_ret (dm_e (de_callO dx (ok_plus T) (by decide) (by rfl) (da_cons (de_ix (de_v (pv 2)) de_int (by intro _ _; rfl)) (da_cons (de_ix (de_v (pv 3)) de_int (by intro _ _; rfl)) da_nil))))))
   dss_nil)
  (dss_cons (ds_set (i := 4) (by exact dx.nd) (by rfl) (by first | exact .inl (by rfl) | exact .inr (by rfl)) (dm_e (de_if (dt_cmp (op_eq' (by exact dx.rm.units)) NoX.eq (de_v (pv 1)) de_str (nomark _)) (de_ix (de_v (pv 3)) de_int (by intro _ _; rfl)) (de_ix (de_v (pv 2)) de_int (by intro _ _; rfl)))))
  (dss_cons (ds_set (i := 5) (by exact dx.nd) (by rfl) (by first | exact .inl (by rfl) | exact .inr (by rfl)) (dm_e (de_if (dt_cmp (op_eq' (by exact dx.rm.units)) NoX.eq (de_v (pv 1)) de_str (nomark _)) (de_callO dx (ok_plus T) (by decide) (by rfl) (da_cons (de_ix (de_v (pv 3)) de_int (by intro _ _; rfl)) (da_cons (de_ix (de_v (pv 3)) de_int (by intro _ _; rfl)) da_nil))) (de_callO dx (ok_plus T) (by decide) (by rfl) (da_cons (de_ix (de_v (pv 2)) de_int (by intro _ _; rfl)) (da_cons (de_ix (de_v (pv 2)) de_int (by intro _ _; rfl)) da_nil))))))
  (dss_cons (ds_if (dt_cmp (op_eq' (by exact dx.rm.units)) NoX.eq (de_ix (de_v (pv 5)) de_int (by intro _ _; rfl)) de_int (nomark _))
   (dss_one (ds_ret (dm_e de_non)))
   dss_nil)
  (dss_one (ds_ret (dm_e (de_callO dx (ok_over T) (by decide) (by rfl) (da_cons (de_v (pv 4)) (da_cons (de_v (pv 5)) da_nil)))))))))))
def G_types_with : Sv :=
  (sSeq (sAsg (.tp [(.nm 3), (.nm 4), (.nm 4)]) (mE [0] (eV 0)))
  (sSeq (sAsg (.tp [(.nm 5), (.nm 6)]) (mE [0] (eF F_gains_of (lC (eV 0) lN))))
  (sSeq (sSet 7 (mE [3, 1, 1, 3, 5, 1, 5, 1] (eA gLst (lC (eF F_minus (lC (eA gIx (lC (eA gIx (lC (eV 3) (lC (eC (.int 0)) lN))) (lC (eC (.int 0)) lN))) (lC (eV 1) lN))) (lC (eV 1) (lC (eF F_minus (lC (eA gIx (lC (eA gIx (lC (eV 3) (lC (eC (.int 0)) lN))) (lC (eC (.int 1)) lN))) (lC (eF F_minus (lC (eV 5) (lC (eV 1) lN))) lN))) (lC (eF F_minus (lC (eV 5) (lC (eV 1) lN))) lN)))))))
  (sSeq (sSet 8 (mE [3, 2] (eF F_minus (lC (eA gIx (lC (eA gIx (lC (eV 3) (lC (eC (.int 1)) lN))) (lC (eC (.int 1)) lN))) (lC (eV 2) lN)))))
  (sSeq (sSet 9 (mE [3, 6, 2, 2, 6, 8, 8] (eA gLst (lC (eF F_minus (lC (eF F_minus (lC (eF F_total (lC (eA gIx (lC (eV 3) (lC (eC (.int 1)) lN))) lN)) (lC (eV 6) lN))) (lC (eV 2) lN))) (lC (eV 2) (lC (eF F_minus (lC (eV 6) (lC (eV 8) lN))) (lC (eV 8) lN)))))))
  (sRet (mLst (mC (mV 7) (mC (mV 9) mN)))))))))
def F_types_with : List D → ER := runF 10 3 G_types_with
theorem sc_types_with : FnScope ["record", "zero", "one", "seen", "_", "first", "second", "top", "both", "low"] ["record", "zero", "one"] (defScope s_types_with) := ⟨rfl, rfl, rfl, by decide +kernel, rfl, by decide +kernel, by decide +kernel⟩
theorem ok_types_with (T : Txt P K mg) : OkD P w K mg base 5 "types_with" ["record", "zero", "one"] F_types_with := OkD.mk' T.d_types_with sc_types_with fun f cdv A outer s H E P0 fz hr => by
  have dx := dx_of (P := P) (w := w) (K := K) (mg := mg) (base := base) (outer := outer) (s := s) (H := H) (E := E) sc_types_with hr
  exact (dss_cons (ds_asg (dm_e (de_v (pv 0))) (dg_tup (by exact dx.calm) (dgs_cons (dg_nm (pg_name (i := 3) (by exact dx.nd) (by rfl) (by first | exact .inl (by rfl) | exact .inr (by rfl)))) (dgs_cons (dg_nm (pg_name (i := 4) (by exact dx.nd) (by rfl) (by first | exact .inl (by rfl) | exact .inr (by rfl)))) (dgs_cons (dg_nm (pg_name (i := 4) (by exact dx.nd) (by rfl) (by first | exact .inl (by rfl) | exact .inr (by rfl)))) dgs_nil)))))
  (dss_cons (ds_asg (dm_e (de_callO dx (ok_gains_of T) (by decide) (by rfl) (da_cons (de_v (pv 0)) da_nil))) (dg_tup (by exact dx.calm) (dgs_cons (dg_nm (pg_name (i := 5) (by exact dx.nd) (by rfl) (by first | exact .inl (by rfl) | exact .inr (by rfl)))) (dgs_cons (dg_nm (pg_name (i := 6) (by exact dx.nd) (by rfl) (by first | exact .inl (by rfl) | exact .inr (by rfl)))) dgs_nil))))
  (dss_cons (ds_set (i := 7) (by exact dx.nd) (by rfl) (by first | exact .inl (by rfl) | exact .inr (by rfl)) (dm_e (de_lst (da_cons (de_callO dx (ok_minus T) (by decide) (by rfl) (da_cons (de_ix (de_ix (de_v (pv 3)) de_int (by intro _ _; rfl)) de_int (by intro _ _; rfl)) (da_cons (de_v (pv 1)) da_nil))) (da_cons (de_v (pv 1)) (da_cons (de_callO dx (ok_minus T) (by decide) (by rfl) (da_cons (de_ix (de_ix (de_v (pv 3)) de_int (by intro _ _; rfl)) de_int (by intro _ _; rfl)) (da_cons (de_callO dx (ok_minus T) (by decide) (by rfl) (da_cons (de_v (pv 5)) (da_cons (de_v (pv 1)) da_nil))) da_nil))) (da_cons (de_callO dx (ok_minus T) (by decide) (by rfl) (da_cons (de_v (pv 5)) (da_cons (de_v (pv 1)) da_nil))) da_nil)))))))
  (dss_cons (ds_set (i := 8) (by exact dx.nd) (by rfl) (by first | exact .inl (by rfl) | exact .inr (by rfl)) (dm_e (de_callO dx (ok_minus T) (by decide) (by rfl) (da_cons (de_ix (de_ix (de_v (pv 3)) de_int (by intro _ _; rfl)) de_int (by intro _ _; rfl)) (da_cons (de_v (pv 2)) da_nil)))))
  (dss_cons (ds_set (i := 9) (by exact dx.nd) (by rfl) (by first | exact .inl (by rfl) | exact .inr (by rfl)) (dm_e (de_lst (da_cons (de_callO dx (ok_minus T) (by decide) (by rfl) (da_cons (de_callO dx (ok_minus T) (by decide) (by rfl) (da_cons (de_callO dx (ok_total T) (by decide) (by rfl) (da_cons (de_ix (de_v (pv 3)) de_int (by intro _ _; rfl)) da_nil)) (da_cons (de_v (pv 6)) da_nil))) (da_cons (de_v (pv 2)) da_nil))) (da_cons (de_v (pv 2)) (da_cons (de_callO dx (ok_minus T) (by decide) (by rfl) (da_cons (de_v (pv 6)) (da_cons (de_v (pv 8)) da_nil))) (da_cons (de_v (pv 8)) da_nil)))))))
  (dss_one (ds_ret (dm_lst (dml_cons (dm_v (pv 7)) (dml_cons (dm_v (pv 9)) dml_nil))))))))))
def G_types_at : Sv :=
  (sSeq (sDrop (mE [0] (eF F_check_record (lC (eV 0) lN))))
  (sSeq (sIf (eA gIsN (lC (eF F_ends_of (lC (eV 0) (lC (eV 1) lN))) (lC (eC .non) lN)))
   (sRet (mE [] (eC .non)))
   sNx)
  (sSeq (sAsg (.tp [(.nm 3), (.nm 4)]) (mE [0] (eF F_helped (lC (eV 0) lN))))
  (sSeq (sSet 5 (mE [2] (eIf (eA gEq (lC (eV 2) (lC (eC (.str "least")) lN))) (eC (.int 0)) (eC (.int 1)))))
  (sRet (mE [0, 3, 5, 4, 5] (eF F_types_with (lC (eV 0) (lC (eA gIx (lC (eV 3) (lC (eV 5) lN))) (lC (eA gIx (lC (eV 4) (lC (eV 5) lN))) lN))))))))))
def F_types_at : List D → ER := runF 6 3 G_types_at
theorem sc_types_at : FnScope ["record", "word", "end", "zero", "one", "place"] ["record", "word", "end"] (defScope s_types_at) := ⟨rfl, rfl, rfl, by decide +kernel, rfl, by decide +kernel, by decide +kernel⟩
theorem ok_types_at (T : Txt P K mg) : OkD P w K mg base 7 "types_at" ["record", "word", "end"] F_types_at := OkD.mk' T.d_types_at sc_types_at fun f cdv A outer s H E P0 fz hr => by
  have dx := dx_of (P := P) (w := w) (K := K) (mg := mg) (base := base) (outer := outer) (s := s) (H := H) (E := E) sc_types_at hr
  exact (dss_cons (ds_drop (dm_e (de_callO dx (ok_check_record T) (by decide) (by rfl) (da_cons (de_v (pv 0)) da_nil))))
  (dss_cons (ds_if (dt_cmp op_isN' NoX.isN (de_callO dx (ok_ends_of T) (by decide) (by rfl) (da_cons (de_v (pv 0)) (da_cons (de_v (pv 1)) da_nil))) de_non (nomark _))
   (dss_one (ds_ret (dm_e de_non)))
   dss_nil)
  (dss_cons (ds_asg (dm_e (de_callO dx (ok_helped T) (by decide) (by rfl) (da_cons (de_v (pv 0)) da_nil))) (dg_tup (by exact dx.calm) (dgs_cons (dg_nm (pg_name (i := 3) (by exact dx.nd) (by rfl) (by first | exact .inl (by rfl) | exact .inr (by rfl)))) (dgs_cons (dg_nm (pg_name (i := 4) (by exact dx.nd) (by rfl) (by first | exact .inl (by rfl) | exact .inr (by rfl)))) dgs_nil))))
  (dss_cons (ds_set (i := 5) (by exact dx.nd) (by rfl) (by first | exact .inl (by rfl) | exact .inr (by rfl)) (dm_e (de_if (dt_cmp (op_eq' (by exact dx.rm.units)) NoX.eq (de_v (pv 2)) de_str (nomark _)) de_int de_int)))
  (dss_one (ds_ret (dm_e (de_callO dx (ok_types_with T) (by decide) (by rfl) (da_cons (de_v (pv 0)) (da_cons (de_ix (de_v (pv 3)) (de_v (pv 5)) (by intro _ _; rfl)) (da_cons (de_ix (de_v (pv 4)) (de_v (pv 5)) (by intro _ _; rfl)) da_nil)))))))))))
noncomputable def B_law_1 : Sv := (sSeq (sSet 13 (mE [7, 10, 3] (eF F_types_at (lC (eV 7) (lC (eV 10) (lC (eA gIx (lC (eA gLst (lC (eC (.str "least")) (lC (eC (.str "greatest")) lN))) (lC (eV 3) lN))) lN))))))
    (sIf (eA gIsN (lC (eV 12) (lC (eC .non) lN)))
     (sIf (eA gNotN (lC (eV 13) (lC (eC .non) lN)))
      (sRet (mE [] (eC (.bl false))))
      sNx)
     (sSeq (sIf (eOr (eNot (eF F_l_are_types (lC (eV 7) (lC (eV 13) lN)))) (eOr (eA gNe (lC (eF F_l_chance (lC (eV 13) (lC (eV 10) lN))) (lC (eA gIx (lC (eV 12) (lC (eV 3) lN))) lN))) (eA gNe (lC (eF F_chance_by (lC (eV 13) (lC (eV 10) lN))) (lC (eA gIx (lC (eV 12) (lC (eV 3) lN))) lN)))))
      (sRet (mE [] (eC (.bl false))))
      sNx)
     (sDrop (mMeth 9 [] (mC (mV 13) mN) gAppend)))))
noncomputable def B_law_2 : Sv := (sSeq (sSet 16 (mE [6, 14, 15, 2] (eF F_l_moved (lC (eV 6) (lC (eV 14) (lC (eF F_l_low (lC (eV 15) (lC (eA gMul (lC (eC (.int 4)) (lC (eA gSum (lC (eV 2) lN)) lN))) lN))) lN))))))
      (sIf (eF F_l_are_types (lC (eV 7) (lC (eV 16) lN)))
       (sSeq (sSet 17 (mE [16, 10] (eF F_l_chance (lC (eV 16) (lC (eV 10) lN)))))
       (sSeq (sDrop (mMeth 9 [] (mC (mV 16) mN) gAppend))
       (sIf (eOr (eF F_l_less (lC (eV 17) (lC (eA gIx (lC (eV 12) (lC (eC (.int 0)) lN))) lN))) (eF F_l_less (lC (eA gIx (lC (eV 12) (lC (eC (.int 1)) lN))) (lC (eV 17) lN))))
        (sRet (mE [] (eC (.bl false))))
        sNx)))
       sNx))
noncomputable def B_law_3 : Sv := (sFor [] (lC (eA gNeg (lC (eC (.int 4)) lN)) (lC (eC (.int 5)) lN)) giRng2 (.nm 15)
      B_law_2)
noncomputable def B_law_4 : Sv := (sSeq (sSet 11 (mE [6, 10] (eF F_l_chance (lC (eV 6) (lC (eV 10) lN)))))
   (sSeq (sSet 12 (mE [7, 10] (eF F_ends (lC (eV 7) (lC (eV 10) lN)))))
   (sSeq (sIf (eA gNe (lC (eA gIsN (lC (eV 12) (lC (eC .non) lN))) (lC (eA gIsN (lC (eV 11) (lC (eC .non) lN))) lN)))
    (sRet (mE [] (eC (.bl false))))
    sNx)
   (sSeq (sFor [] (lC (eC (.int 2)) lN) giRng1 (.nm 3)
    B_law_1)
   (sIf (eA gNotN (lC (eV 12) (lC (eC .non) lN)))
    (sSeq (sIf (eOr (eF F_l_less (lC (eV 11) (lC (eA gIx (lC (eV 12) (lC (eC (.int 0)) lN))) lN))) (eF F_l_less (lC (eA gIx (lC (eV 12) (lC (eC (.int 1)) lN))) (lC (eV 11) lN))))
     (sRet (mE [] (eC (.bl false))))
     sNx)
    (sFor [] (lC (eC (.int 2)) lN) giRng1 (.nm 14)
     B_law_3))
    sNx)))))
noncomputable def B_law_5 : Sv := (sIf (eA gNe (lC (eA gRepr (lC (eF F_are_types (lC (eV 7) (lC (eLc (lC (eV 18) lN) giSeq (.nm 19) [19] cYes (eA gList (lC (eV 19) lN))) lN))) lN)) (lC (eA gRepr (lC (eF F_l_are_types (lC (eV 7) (lC (eV 18) lN))) lN)) lN)))
    (sRet (mE [] (eC (.bl false))))
    sNx)
noncomputable def B_law_6 : Sv := (sIf (eA gNe (lC (eF F_l_word (lC (eV 16) lN)) (lC (eA gTup (lC (eC (.str "record")) (lC (eC (.int 0)) lN))) lN)))
    (sRet (mE [] (eC (.bl false))))
    sNx)
noncomputable def B_law_7 : Sv := (sIf (eAnd (eA gGe (lC (eA gIx (lC (eV 16) (lC (eC (.int 0)) lN))) (lC (eC (.int 0)) lN))) (eAnd (eNot (eF F_l_less (lC (eA gTup (lC (eC (.int 1)) (lC (eC (.int 1)) lN))) (lC (eV 16) lN)))) (eA gNe (lC (eF F_l_word (lC (eA gTup (lC (eV 20) (lC (eV 21) (lC (eV 16) lN)))) lN)) (lC (eA gTup (lC (eC (.str "unfit")) (lC (eC (.int 0)) lN))) lN)))))
    (sRet (mE [] (eC (.bl false))))
    sNx)
noncomputable def G_law : Sv :=
  (sSeq (sSet 1 (mE [0] (eF F_l_draws (lC (eV 0) lN))))
  (sSeq (sSet 2 (mE [1, 3, 1] (eLc (lC (eC (.int 8)) lN) giRng1 (.nm 3) [3] cYes (eF F_l_mix (lC (eV 1) (lC (eA gAdd (lC (eC (.int 10)) (lC (eV 3) lN))) (lC (eA gIx (lC (eA gLst (lC (eC (.int 4)) (lC (eC (.int 9)) (lC (eC (.int 2)) lN)))) (lC (eF F_l_mix (lC (eV 1) (lC (eC (.int 0)) (lC (eC (.int 3)) lN)))) lN))) lN)))))))
  (sSeq (sIf (eA gEq (lC (eF F_l_mix (lC (eV 1) (lC (eC (.int 1)) (lC (eC (.int 3)) lN)))) (lC (eC (.int 1)) lN)))
   (sSeq (sAsg (.sub 2 [(eC (.int 2))]) (mE [] (eC (.int 0))))
   (sAsg (.sub 2 [(eC (.int 6))]) (mE [] (eC (.int 0)))))
   sNx)
  (sSeq (sIf (eA gEq (lC (eA gSum (lC (eV 2) lN)) (lC (eC (.int 0)) lN)))
   (sAsg (.sub 2 [(eF F_l_mix (lC (eV 1) (lC (eC (.int 2)) (lC (eC (.int 8)) lN))))]) (mE [] (eC (.int 1))))
   sNx)
  (sSeq (sSet 4 (mE [2, 5, 2] (eLc (lC (eV 2) lN) giSeq (.nm 5) [5] cYes (eF F_l_low (lC (eV 5) (lC (eA gSum (lC (eV 2) lN)) lN))))))
  (sSeq (sSet 6 (mE [4, 4] (eA gLst (lC (eA gSl (lC (eV 4) (lC eNo (lC (eInt (eC (.int 4))) lN)))) (lC (eA gSl (lC (eV 4) (lC (eInt (eC (.int 4))) (lC eNo lN)))) lN)))))
  (sSeq (sSet 7 (mE [6] (eF F_l_record (lC (eV 6) lN))))
  (sSeq (sSet 8 (mE [7] (eA gRepr (lC (eV 7) lN))))
  (sSeq (sIf (eA gNe (lC (eA gRepr (lC (eF F_ends (lC (eV 7) (lC (eC (.str "both")) lN))) lN)) (lC (eA gRepr (lC (eF F_l_bounds (lC (eV 7) lN)) lN)) lN)))
   (sRet (mE [] (eC (.bl false))))
   sNx)
  (sSeq (sIf (eAnd (eA gEq (lC (eA gIx (lC (eV 2) (lC (eC (.int 2)) lN))) (lC (eC (.int 0)) lN))) (eAnd (eA gEq (lC (eA gIx (lC (eV 2) (lC (eC (.int 6)) lN))) (lC (eC (.int 0)) lN))) (eA gNe (lC (eF F_l_chance (lC (eV 6) (lC (eC (.str "both")) lN))) (lC (eF F_l_minus (lC (eA gIx (lC (eV 7) (lC (eC (.int 2)) lN))) (lC (eA gIx (lC (eV 7) (lC (eC (.int 1)) lN))) lN))) lN)))))
   (sRet (mE [] (eC (.bl false))))
   sNx)
  (sSeq (sSet 9 (mE [6] (eA gLst (lC (eV 6) lN))))
  (sSeq (sFor [] (lC (eA gLst (lC (eC (.str "both")) (lC (eC (.str "needed")) (lC (eC (.str "enough")) lN)))) lN) giSeq (.nm 10)
   B_law_4)
  (sSeq (sSet 9 (mE [9, 6, 6, 6, 6, 6, 6] (eA gAdd (lC (eV 9) (lC (eA gLst (lC (eA gSl (lC (eV 6) (lC eNo (lC (eInt (eC (.int 1))) lN)))) (lC (eA gLst (lC (eA gIx (lC (eV 6) (lC (eC (.int 0)) lN))) (lC (eA gSl (lC (eA gIx (lC (eV 6) (lC (eC (.int 1)) lN))) (lC (eInt (eC (.int 1))) (lC eNo lN)))) lN))) (lC (eA gLst (lC (eA gIx (lC (eV 6) (lC (eC (.int 1)) lN))) (lC (eA gIx (lC (eV 6) (lC (eC (.int 0)) lN))) lN))) (lC (eF F_l_moved (lC (eV 6) (lC (eC (.int 0)) (lC (eA gTup (lC (eC (.int 1)) (lC (eC (.int 1)) lN))) lN)))) lN))))) lN)))))
  (sSeq (sFor [9] (lC (eA gSl (lC (eV 9) (lC eNo (lC (eInt (eC (.int 30))) lN)))) lN) giSeq (.nm 18)
   B_law_5)
  (sSeq (sAsg (.tp [(.nm 20), (.nm 21), (.nm 18)]) (mE [7] (eV 7)))
  (sSeq (sSet 22 (mE [20, 21, 18, 21, 18, 20, 18, 20, 21] (eA gLst (lC (eA gTup (lC (eA gLst (lC (eA gIx (lC (eV 20) (lC (eC (.int 0)) lN))) lN)) (lC (eV 21) (lC (eV 18) lN)))) (lC (eA gTup (lC (eA gLst (lC (eA gLst (lC (eA gTup (lC (eC (.int 2)) (lC (eC (.int 4)) lN))) (lC (eA gTup (lC (eC (.int 0)) (lC (eC (.int 1)) lN))) lN))) (lC (eA gLst (lC (eA gTup (lC (eC (.int 1)) (lC (eC (.int 2)) lN))) (lC (eA gTup (lC (eC (.int 0)) (lC (eC (.int 1)) lN))) lN))) lN))) (lC (eV 21) (lC (eV 18) lN)))) (lC (eA gTup (lC (eV 20) (lC (eA gTup (lC (eC (.int 3)) (lC (eC (.int 2)) lN))) (lC (eV 18) lN)))) (lC (eA gTup (lC (eV 20) (lC (eV 21) (lC (eA gTup (lC (eA gNeg (lC (eC (.int 1)) lN)) (lC (eC (.int 2)) lN))) lN)))) lN)))))))
  (sSeq (sFor [22, 21, 18] (lC (eA gAdd (lC (eV 22) (lC (eA gLst (lC (eA gTup (lC (eA gLst (lC (eA gLst (lC (eA gTup (lC (eC (.int 1)) (lC (eC (.int 2)) lN))) (lC (eA gTup (lC (eC (.int 1)) (lC (eC (.int 2)) lN))) lN))) (lC (eA gLst (lC (eA gTup (lC (eC (.int 1)) (lC (eC (.int 2)) lN))) (lC (eA gTup (lC (eC (.int 0)) (lC (eC (.int 1)) lN))) lN))) lN))) (lC (eV 21) (lC (eV 18) lN)))) lN)) lN))) lN) giSeq (.nm 16)
   B_law_6)
  (sSeq (sFor [20, 20, 20, 20] (lC (eA gLst (lC (eF F_l_minus (lC (eA gIx (lC (eA gIx (lC (eV 20) (lC (eC (.int 1)) lN))) (lC (eC (.int 1)) lN))) (lC (eA gTup (lC (eC (.int 1)) (lC (eC (.int 30)) lN))) lN))) (lC (eF F_l_sum (lC (eA gLst (lC (eA gIx (lC (eA gIx (lC (eV 20) (lC (eC (.int 1)) lN))) (lC (eC (.int 1)) lN))) (lC (eA gIx (lC (eA gIx (lC (eV 20) (lC (eC (.int 0)) lN))) (lC (eC (.int 0)) lN))) (lC (eA gIx (lC (eA gIx (lC (eV 20) (lC (eC (.int 0)) lN))) (lC (eC (.int 1)) lN))) (lC (eA gTup (lC (eC (.int 1)) (lC (eC (.int 30)) lN))) lN))))) lN)) lN))) lN) giSeq (.nm 16)
   B_law_7)
  (sRet (mE [7, 8] (eA gEq (lC (eA gRepr (lC (eV 7) lN)) (lC (eV 8) lN)))))))))))))))))))))))
noncomputable def F_law : List D → ER := runF 23 1 G_law
theorem sc_law : FnScope ["script", "draws", "parts", "k", "flat", "part", "told", "record", "kept", "lists", "word", "mine", "pair", "types", "x", "t", "other", "now", "one", "row", "seen", "zero", "bad"] ["script"] (defScope s_law) := ⟨rfl, rfl, rfl, by decide +kernel, rfl, by decide +kernel, by decide +kernel⟩
theorem ok_law (T : Txt P K mg) {f : Addr} {fd : FuncData} (Fn : Fun K "law" "law" s_law f fd) : FnG P w K mg base 9 f fd ["script"] (spD K w mg F_law) := fn_ofG Fn sc_law fun cdv A outer s H E P0 fz hr => by
  have dx := dx_of (P := P) (w := w) (K := K) (mg := mg) (base := base) (outer := outer) (s := s) (H := H) (E := E) sc_law hr
  exact (dss_cons (ds_set (i := 1) (by exact dx.nd) (by rfl) (by first | exact .inl (by rfl) | exact .inr (by rfl)) (dm_e (de_callO dx (ok_l_draws T) (by decide) (by rfl) (da_cons (de_v (pv 0)) da_nil))))
  (dss_cons (ds_set (i := 2) (by exact dx.nd) (by rfl) (by first | exact .inl (by rfl) | exact .inr (by rfl)) (dm_e (de_lc dx (di_rng1 (by rfl) (by exact T.n_range) (da_cons de_int da_nil)) (own := [("k", 3)]) (blkOk_by (by kernel_rfl)) (by simp [Tg.slots, tgSlots]) (fun s1 H1 C1 cl1 fp1 => (dgv_nm (pg_name (i := 3) (by exact dx.nd) (by rfl) (by first | exact .inl (by rfl) | exact .inr (by rfl))))) (fun s1 H1 C1 cl1 fp1 => dts_nil) (fun s1 H1 C1 cl1 fp1 => (de_callO (dx_blk dx s1 H1 _ _ fp1) (ok_l_mix T) (by decide) (by rfl) (da_cons (de_v (pv 1)) (da_cons (de_op2 op_add' NoX.add de_int (de_v (pv 3))) (da_cons (de_ix (de_lst (da_cons de_int (da_cons de_int (da_cons de_int da_nil)))) (de_callO (dx_blk dx s1 H1 _ _ fp1) (ok_l_mix T) (by decide) (by rfl) (da_cons (de_v (pv 1)) (da_cons de_int (da_cons de_int da_nil)))) (by intro _ _; rfl)) da_nil))))))))
  (dss_cons (ds_if (dt_cmp (op_eq' (by exact dx.rm.units)) NoX.eq (de_callO dx (ok_l_mix T) (by decide) (by rfl) (da_cons (de_v (pv 1)) (da_cons de_int (da_cons de_int da_nil)))) de_int (nomark _))
   (dss_cons (ds_asg (dm_e de_int) (dg_sub (tp_v (pv 2)) de_int rfl rfl))
   (dss_one (ds_asg (dm_e de_int) (dg_sub (tp_v (pv 2)) de_int rfl rfl))))
   dss_nil)
  (dss_cons (ds_if (dt_cmp (op_eq' (by exact dx.rm.units)) NoX.eq (de_callB (call_sum' (by exact dx.calm)) NoX.sum (by rfl) (by exact T.n_sum) boot_sum (da_cons (de_v (pv 2)) da_nil)) de_int (nomark _))
   (dss_one (ds_asg (dm_e de_int) (dg_sub (tp_v (pv 2)) (de_callO dx (ok_l_mix T) (by decide) (by rfl) (da_cons (de_v (pv 1)) (da_cons de_int (da_cons de_int da_nil)))) rfl rfl)))
   dss_nil)
  (dss_cons (ds_setLc (i := 4) dx rfl rfl rfl rfl (di_seq (de_v (pv 2))) (own := [("part", 5)]) (blkOk_by (by kernel_rfl)) (by simp [Tg.slots, tgSlots]) (fun s2 H2 C2 cl2 fp2 => (dgv_nm (pg_name (i := 5) (by exact dx.nd) (by rfl) (by first | exact .inl (by rfl) | exact .inr (by rfl))))) (fun s2 H2 C2 cl2 fp2 => dts_nil) (fun s2 H2 C2 cl2 fp2 => (de_callO (dx_blk dx s2 H2 _ _ fp2) (ok_l_low T) (by decide) (by rfl) (da_cons (de_v (pv 5)) (da_cons (de_callB (call_sum' (by exact dx.calm)) NoX.sum (by rfl) (by exact T.n_sum) boot_sum (da_cons (de_v (pv 2)) da_nil)) da_nil)))))
  (dss_cons (ds_set (i := 6) (by exact dx.nd) (by rfl) (by first | exact .inl (by rfl) | exact .inr (by rfl)) (dm_e (de_lst (da_cons (de_sl (de_v (pv 4)) dp_no (dp_i de_int)) (da_cons (de_sl (de_v (pv 4)) (dp_i de_int) dp_no) da_nil)))))
  (dss_cons (ds_set (i := 7) (by exact dx.nd) (by rfl) (by first | exact .inl (by rfl) | exact .inr (by rfl)) (dm_e (de_callO dx (ok_l_record T) (by decide) (by rfl) (da_cons (de_v (pv 6)) da_nil))))
  (dss_cons (ds_set (i := 8) (by exact dx.nd) (by rfl) (by first | exact .inl (by rfl) | exact .inr (by rfl)) (dm_e (de_callB (call_repr' (by exact dx.rm.units) (by exact dx.gd)) NoX.repr (by rfl) (by exact T.n_repr) boot_repr (da_cons (de_v (pv 7)) da_nil))))
  (dss_cons (ds_if (dt_cmp (op_ne' (by exact dx.rm.units)) NoX.ne (de_callB (call_repr' (by exact dx.rm.units) (by exact dx.gd)) NoX.repr (by rfl) (by exact T.n_repr) boot_repr (da_cons (de_callO dx (ok_ends T) (by decide) (by rfl) (da_cons (de_v (pv 7)) (da_cons de_str da_nil))) da_nil)) (de_callB (call_repr' (by exact dx.rm.units) (by exact dx.gd)) NoX.repr (by rfl) (by exact T.n_repr) boot_repr (da_cons (de_callO dx (ok_l_bounds T) (by decide) (by rfl) (da_cons (de_v (pv 7)) da_nil)) da_nil)) (nomark _))
   (dss_one (ds_ret (dm_e de_bl)))
   dss_nil)
  (dss_cons (ds_if (PW.pt (dw_and (dt_cmp (op_eq' (by exact dx.rm.units)) NoX.eq (de_ix (de_v (pv 2)) de_int (by intro _ _; rfl)) de_int (nomark _)) (dw_and (dt_cmp (op_eq' (by exact dx.rm.units)) NoX.eq (de_ix (de_v (pv 2)) de_int (by intro _ _; rfl)) de_int (nomark _)) (dw_and1 (dt_cmp (op_ne' (by exact dx.rm.units)) NoX.ne (de_callO dx (ok_l_chance T) (by decide) (by rfl) (da_cons (de_v (pv 6)) (da_cons de_str da_nil))) (de_callO dx (ok_l_minus T) (by decide) (by rfl) (da_cons (de_ix (de_v (pv 7)) de_int (by intro _ _; rfl)) (da_cons (de_ix (de_v (pv 7)) de_int (by intro _ _; rfl)) da_nil))) (nomark _))))))
   (dss_one (ds_ret (dm_e de_bl)))
   dss_nil)
  (dss_cons (ds_set (i := 9) (by exact dx.nd) (by rfl) (by first | exact .inl (by rfl) | exact .inr (by rfl)) (dm_e (de_lst (da_cons (de_v (pv 6)) da_nil))))
  (dss_cons (ds_for (passes_of rfl) (by exact dx.calm) (di_seq (de_lst (da_cons de_str (da_cons de_str (da_cons de_str da_nil))))) (dg_nm (pg_name (i := 10) (by exact dx.nd) (by rfl) (by first | exact .inl (by rfl) | exact .inr (by rfl))))
   (dss_cons (ds_set (i := 11) (by exact dx.nd) (by rfl) (by first | exact .inl (by rfl) | exact .inr (by rfl)) (dm_e (de_callO dx (ok_l_chance T) (by decide) (by rfl) (da_cons (de_v (pv 6)) (da_cons (de_v (pv 10)) da_nil)))))
   (dss_cons (ds_set (i := 12) (by exact dx.nd) (by rfl) (by first | exact .inl (by rfl) | exact .inr (by rfl)) (dm_e (de_callO dx (ok_ends T) (by decide) (by rfl) (da_cons (de_v (pv 7)) (da_cons (de_v (pv 10)) da_nil)))))
   (dss_cons (ds_if (dt_cmp (op_ne' (by exact dx.rm.units)) NoX.ne (de_cmp op_isN' NoX.isN (de_v (pv 12)) de_non (nomark _)) (de_cmp op_isN' NoX.isN (de_v (pv 11)) de_non (nomark _)) (nomark _))
    (dss_one (ds_ret (dm_e de_bl)))
    dss_nil)
   (dss_cons (ds_for (passes_of rfl) (by exact dx.calm) (di_rng1 (by rfl) (by exact T.n_range) (da_cons de_int da_nil)) (dg_nm (pg_name (i := 3) (by exact dx.nd) (by rfl) (by first | exact .inl (by rfl) | exact .inr (by rfl))))
    (dss_cons (ds_set (i := 13) (by exact dx.nd) (by rfl) (by first | exact .inl (by rfl) | exact .inr (by rfl)) (dm_e (de_callO dx (ok_types_at T) (by decide) (by rfl) (da_cons (de_v (pv 7)) (da_cons (de_v (pv 10)) (da_cons (de_ix (de_lst (da_cons de_str (da_cons de_str da_nil))) (de_v (pv 3)) (by intro _ _; rfl)) da_nil))))))
    (dss_one (ds_if (dt_cmp op_isN' NoX.isN (de_v (pv 12)) de_non (nomark _))
     (dss_one (ds_if (dt_cmp op_notN' NoX.notN (de_v (pv 13)) de_non (nomark _))
      (dss_one (ds_ret (dm_e de_bl)))
      dss_nil))
     (dss_cons (ds_if (PW.pt (dw_or (dt_not (dt_val (de_callO dx (ok_l_are_types T) (by decide) (by rfl) (da_cons (de_v (pv 7)) (da_cons (de_v (pv 13)) da_nil))))) (dw_or (dt_cmp (op_ne' (by exact dx.rm.units)) NoX.ne (de_callO dx (ok_l_chance T) (by decide) (by rfl) (da_cons (de_v (pv 13)) (da_cons (de_v (pv 10)) da_nil))) (de_ix (de_v (pv 12)) (de_v (pv 3)) (by intro _ _; rfl)) (nomark _)) (dw_or1 (dt_cmp (op_ne' (by exact dx.rm.units)) NoX.ne (de_callO dx (ok_chance_by T) (by decide) (by rfl) (da_cons (de_v (pv 13)) (da_cons (de_v (pv 10)) da_nil))) (de_ix (de_v (pv 12)) (de_v (pv 3)) (by intro _ _; rfl)) (nomark _))))))
      (dss_one (ds_ret (dm_e de_bl)))
      dss_nil)
     (dss_one (ds_drop (dm_meth F.slot_list_append F.type_list_append mt_append md_append rfl rfl (tp_v (pv 9)) (dmls_cons (dms_v (pv 13)) dmls_nil)))))))))
   (dss_one (ds_if (dt_cmp op_notN' NoX.notN (de_v (pv 12)) de_non (nomark _))
    (dss_cons (ds_if (PW.pt (dw_or (dt_val (de_callO dx (ok_l_less T) (by decide) (by rfl) (da_cons (de_v (pv 11)) (da_cons (de_ix (de_v (pv 12)) de_int (by intro _ _; rfl)) da_nil)))) (dw_or1 (dt_val (de_callO dx (ok_l_less T) (by decide) (by rfl) (da_cons (de_ix (de_v (pv 12)) de_int (by intro _ _; rfl)) (da_cons (de_v (pv 11)) da_nil)))))))
     (dss_one (ds_ret (dm_e de_bl)))
     dss_nil)
    (dss_one (ds_for (passes_of rfl) (by exact dx.calm) (di_rng1 (by rfl) (by exact T.n_range) (da_cons de_int da_nil)) (dg_nm (pg_name (i := 14) (by exact dx.nd) (by rfl) (by first | exact .inl (by rfl) | exact .inr (by rfl))))
     (dss_one (ds_for (passes_of rfl) (by exact dx.calm) (di_rng2 (by rfl) (by exact T.n_range) (da_cons (de_op1 un_neg' NoX.neg de_int) (da_cons de_int da_nil))) (dg_nm (pg_name (i := 15) (by exact dx.nd) (by rfl) (by first | exact .inl (by rfl) | exact .inr (by rfl))))
      (dss_cons (ds_set (i := 16) (by exact dx.nd) (by rfl) (by first | exact .inl (by rfl) | exact .inr (by rfl)) (dm_e (de_callO dx (ok_l_moved T) (by decide) (by rfl) (da_cons (de_v (pv 6)) (da_cons (de_v (pv 14)) (da_cons (de_callO dx (ok_l_low T) (by decide) (by rfl) (da_cons (de_v (pv 15)) (da_cons (de_op2 op_mul' NoX.i2 de_int (de_callB (call_sum' (by exact dx.calm)) NoX.sum (by rfl) (by exact T.n_sum) boot_sum (da_cons (de_v (pv 2)) da_nil))) da_nil))) da_nil))))))
      (dss_one (ds_if (dt_val (de_callO dx (ok_l_are_types T) (by decide) (by rfl) (da_cons (de_v (pv 7)) (da_cons (de_v (pv 16)) da_nil))))
       (dss_cons (ds_set (i := 17) (by exact dx.nd) (by rfl) (by first | exact .inl (by rfl) | exact .inr (by rfl)) (dm_e (de_callO dx (ok_l_chance T) (by decide) (by rfl) (da_cons (de_v (pv 16)) (da_cons (de_v (pv 10)) da_nil)))))
       (dss_cons (ds_drop (dm_meth F.slot_list_append F.type_list_append mt_append md_append rfl rfl (tp_v (pv 9)) (dmls_cons (dms_v (pv 16)) dmls_nil)))
       (dss_one (ds_if (PW.pt (dw_or (dt_val (de_callO dx (ok_l_less T) (by decide) (by rfl) (da_cons (de_v (pv 17)) (da_cons (de_ix (de_v (pv 12)) de_int (by intro _ _; rfl)) da_nil)))) (dw_or1 (dt_val (de_callO dx (ok_l_less T) (by decide) (by rfl) (da_cons (de_ix (de_v (pv 12)) de_int (by intro _ _; rfl)) (da_cons (de_v (pv 17)) da_nil)))))))
        (dss_one (ds_ret (dm_e de_bl)))
        dss_nil))))
       dss_nil))))))))
    dss_nil)))))))
  (dss_cons (ds_set (i := 9) (by exact dx.nd) (by rfl) (by first | exact .inl (by rfl) | exact .inr (by rfl)) (dm_e (de_op2 op_add' NoX.add (de_v (pv 9)) (de_lst (da_cons (de_sl (de_v (pv 6)) dp_no (dp_i de_int)) (da_cons (de_lst (da_cons (de_ix (de_v (pv 6)) de_int (by intro _ _; rfl)) (da_cons (de_sl (de_ix (de_v (pv 6)) de_int (by intro _ _; rfl)) (dp_i de_int) dp_no) da_nil))) (da_cons (de_lst (da_cons (de_ix (de_v (pv 6)) de_int (by intro _ _; rfl)) (da_cons (de_ix (de_v (pv 6)) de_int (by intro _ _; rfl)) da_nil))) (da_cons (de_callO dx (ok_l_moved T) (by decide) (by rfl) (da_cons (de_v (pv 6)) (da_cons de_int (da_cons (de_tup (da_cons de_int (da_cons de_int da_nil))) da_nil)))) da_nil))))))))
  (dss_cons (ds_for (passes_of rfl) (by exact dx.calm) (di_seq (de_sl (de_v (pv 9)) dp_no (dp_i de_int))) (dg_nm (pg_name (i := 18) (by exact dx.nd) (by rfl) (by first | exact .inl (by rfl) | exact .inr (by rfl))))
   (dss_one (ds_if (dt_cmp (op_ne' (by exact dx.rm.units)) NoX.ne (de_callB (call_repr' (by exact dx.rm.units) (by exact dx.gd)) NoX.repr (by rfl) (by exact T.n_repr) boot_repr (da_cons (de_callO dx (ok_are_types T) (by decide) (by rfl) (da_cons (de_v (pv 7)) (da_cons (de_lc dx (di_seq (de_v (pv 18))) (own := [("row", 19)]) (blkOk_by (by kernel_rfl)) (by simp [Tg.slots, tgSlots]) (fun s3 H3 C3 cl3 fp3 => (dgv_nm (pg_name (i := 19) (by exact dx.nd) (by rfl) (by first | exact .inl (by rfl) | exact .inr (by rfl))))) (fun s3 H3 C3 cl3 fp3 => dts_nil) (fun s3 H3 C3 cl3 fp3 => (de_callTy call_list' NoX.list (by rfl) (by exact T.n_list) boot_list (da_cons (de_v (pv 19)) da_nil)))) da_nil))) da_nil)) (de_callB (call_repr' (by exact dx.rm.units) (by exact dx.gd)) NoX.repr (by rfl) (by exact T.n_repr) boot_repr (da_cons (de_callO dx (ok_l_are_types T) (by decide) (by rfl) (da_cons (de_v (pv 7)) (da_cons (de_v (pv 18)) da_nil))) da_nil)) (nomark _))
    (dss_one (ds_ret (dm_e de_bl)))
    dss_nil)))
  (dss_cons (ds_asg (dm_e (de_v (pv 7))) (dg_tup (by exact dx.calm) (dgs_cons (dg_nm (pg_name (i := 20) (by exact dx.nd) (by rfl) (by first | exact .inl (by rfl) | exact .inr (by rfl)))) (dgs_cons (dg_nm (pg_name (i := 21) (by exact dx.nd) (by rfl) (by first | exact .inl (by rfl) | exact .inr (by rfl)))) (dgs_cons (dg_nm (pg_name (i := 18) (by exact dx.nd) (by rfl) (by first | exact .inl (by rfl) | exact .inr (by rfl)))) dgs_nil)))))
  (dss_cons (ds_set (i := 22) (by exact dx.nd) (by rfl) (by first | exact .inl (by rfl) | exact .inr (by rfl)) (dm_e (de_lst (da_cons (de_tup (da_cons (de_lst (da_cons (de_ix (de_v (pv 20)) de_int (by intro _ _; rfl)) da_nil)) (da_cons (de_v (pv 21)) (da_cons (de_v (pv 18)) da_nil)))) (da_cons (de_tup (da_cons (de_lst (da_cons (de_lst (da_cons (de_tup (da_cons de_int (da_cons de_int da_nil))) (da_cons (de_tup (da_cons de_int (da_cons de_int da_nil))) da_nil))) (da_cons (de_lst (da_cons (de_tup (da_cons de_int (da_cons de_int da_nil))) (da_cons (de_tup (da_cons de_int (da_cons de_int da_nil))) da_nil))) da_nil))) (da_cons (de_v (pv 21)) (da_cons (de_v (pv 18)) da_nil)))) (da_cons (de_tup (da_cons (de_v (pv 20)) (da_cons (de_tup (da_cons de_int (da_cons de_int da_nil))) (da_cons (de_v (pv 18)) da_nil)))) (da_cons (de_tup (da_cons (de_v (pv 20)) (da_cons (de_v (pv 21)) (da_cons (de_tup (da_cons (de_op1 un_neg' NoX.neg de_int) (da_cons de_int da_nil))) da_nil)))) da_nil)))))))
  (dss_cons (ds_for (passes_of rfl) (by exact dx.calm) (di_seq (de_op2 op_add' NoX.add (de_v (pv 22)) (de_lst (da_cons (de_tup (da_cons (de_lst (da_cons (de_lst (da_cons (de_tup (da_cons de_int (da_cons de_int da_nil))) (da_cons (de_tup (da_cons de_int (da_cons de_int da_nil))) da_nil))) (da_cons (de_lst (da_cons (de_tup (da_cons de_int (da_cons de_int da_nil))) (da_cons (de_tup (da_cons de_int (da_cons de_int da_nil))) da_nil))) da_nil))) (da_cons (de_v (pv 21)) (da_cons (de_v (pv 18)) da_nil)))) da_nil)))) (dg_nm (pg_name (i := 16) (by exact dx.nd) (by rfl) (by first | exact .inl (by rfl) | exact .inr (by rfl))))
   (dss_one (ds_if (dt_cmp (op_ne' (by exact dx.rm.units)) NoX.ne (de_callO dx (ok_l_word T) (by decide) (by rfl) (da_cons (de_v (pv 16)) da_nil)) (de_tup (da_cons de_str (da_cons de_int da_nil))) (nomark _))
    (dss_one (ds_ret (dm_e de_bl)))
    dss_nil)))
  (dss_cons (ds_for (passes_of rfl) (by exact dx.calm) (di_seq (de_lst (da_cons (de_callO dx (ok_l_minus T) (by decide) (by rfl) (da_cons (de_ix (de_ix (de_v (pv 20)) de_int (by intro _ _; rfl)) de_int (by intro _ _; rfl)) (da_cons (de_tup (da_cons de_int (da_cons de_int da_nil))) da_nil))) (da_cons (de_callO dx (ok_l_sum T) (by decide) (by rfl) (da_cons (de_lst (da_cons (de_ix (de_ix (de_v (pv 20)) de_int (by intro _ _; rfl)) de_int (by intro _ _; rfl)) (da_cons (de_ix (de_ix (de_v (pv 20)) de_int (by intro _ _; rfl)) de_int (by intro _ _; rfl)) (da_cons (de_ix (de_ix (de_v (pv 20)) de_int (by intro _ _; rfl)) de_int (by intro _ _; rfl)) (da_cons (de_tup (da_cons de_int (da_cons de_int da_nil))) da_nil))))) da_nil)) da_nil)))) (dg_nm (pg_name (i := 16) (by exact dx.nd) (by rfl) (by first | exact .inl (by rfl) | exact .inr (by rfl))))
   (dss_one (ds_if (PW.pt (dw_and (dt_cmp op_ge' NoX.i2 (de_ix (de_v (pv 16)) de_int (by intro _ _; rfl)) de_int (nomark _)) (dw_and (dt_not (dt_val (de_callO dx (ok_l_less T) (by decide) (by rfl) (da_cons (de_tup (da_cons de_int (da_cons de_int da_nil))) (da_cons (de_v (pv 16)) da_nil))))) (dw_and1 (dt_cmp (op_ne' (by exact dx.rm.units)) NoX.ne (de_callO dx (ok_l_word T) (by decide) (by rfl) (da_cons (de_tup (da_cons (de_v (pv 20)) (da_cons (de_v (pv 21)) (da_cons (de_v (pv 16)) da_nil)))) da_nil)) (de_tup (da_cons de_str (da_cons de_int da_nil))) (nomark _))))))
    (dss_one (ds_ret (dm_e de_bl)))
    dss_nil)))
  (dss_one (ds_ret (dm_e (de_cmp (op_eq' (by exact dx.rm.units)) NoX.eq (de_callB (call_repr' (by exact dx.rm.units) (by exact dx.gd)) NoX.repr (by rfl) (by exact T.n_repr) boot_repr (da_cons (de_v (pv 7)) da_nil)) (de_v (pv 8)) (nomark _)))))))))))))))))))))))
end
end DL

set_option Elab.async false
set_option linter.all false
set_option maxRecDepth 100000
set_option maxHeartbeats 2000000
namespace DL
open PySem PySem.Spec L2
open PyProof.Rows hiding St

theorem fr_pos (n : Int) (d : Nat) (h0 : d ≠ 0) (hd : d < 2 ^ 900) : F_fraction [.int n, .int (d : Int)] = .val (qd (Rat.divInt n d)) := by
  have hg : 0 < Nat.gcd n.natAbs d := Nat.gcd_pos_of_pos_right _ (Nat.pos_of_ne_zero h0)
  have hl : Nat.gcd n.natAbs d < 2 ^ 900 := Nat.lt_of_le_of_lt (Nat.gcd_le_right _ (Nat.pos_of_ne_zero h0)) hd
  have hneg : ¬ ((d : Int) < 0) := by omega
  obtain ⟨e1, e2⟩ := gcd_fd n d h0
  have g1 : gDiv [.int n, .int ((Nat.gcd n.natAbs d : Nat) : Int)] = .val (.int (n.fdiv ((Nat.gcd n.natAbs d : Nat) : Int))) := gDiv_val (b := 900) (by omega) (by simpa using hl) (by decide) (by decide)
  have g2 : gDiv [.int (d : Int), .int ((Nat.gcd n.natAbs d : Nat) : Int)] = .val (.int ((d : Int).fdiv ((Nat.gcd n.natAbs d : Nat) : Int))) := gDiv_val (b := 900) (by omega) (by simpa using hl) (by decide) (by decide)
  rw [e1] at g1
  rw [e2] at g2
  unfold F_fraction G_fraction
  simp [mMeth, gAppend, keysOf, getP, pathL, putP, eLc2, lcL2, sFor, forL, giSeq, giRng1, giRng2, giEnum, seqOf, eLc, lcL, wipeE, cYes, gLen, gAll, blsOf, sRaise, gNe_str, gEq_str, gIsN_non, gIsN_tup, gIsN_lst, gNotN_non, gNotN_tup, gNotN_lst, runF, sSeq, sIf, sNx, sPar, sSet, sAsg, sRet, sDrop, eA, eF, eC, eV, eOr, eAnd, eNot, eIf, lC, lN, mE, mV, mC, mN, mTup, mLst, Tg.put, tgPuts, D.fz, fzs, D.clean, cleans, frz, fzAt, le_size, lt_size, gLt_val, gGt_val, gLe_val, gGe_val, gSub_val, gNe_int, gEq_int, gEq_qd, gNe_qd, gAdd, gNeg, gGcd, gTup, gLst, gIx, gNe_bl, gEq_bl, gIsN_qd, gNotN_qd, gInt, gAbs, atI, ixN, hneg, g1, g2, qd]
theorem F_fraction_val (n d : Int) (h0 : d ≠ 0) (hd : d.natAbs < 2 ^ 900) : F_fraction [.int n, .int d] = .val (qd (Rat.divInt n d)) := by
  by_cases hneg : d < 0
  · have h : F_fraction [.int n, .int d] = F_fraction [.int (-n), .int (-d)] := by
      have hneg' : ¬ (0 < d) := by omega
      unfold F_fraction G_fraction
      simp [mMeth, gAppend, keysOf, getP, pathL, putP, eLc2, lcL2, sFor, forL, giSeq, giRng1, giRng2, giEnum, seqOf, eLc, lcL, wipeE, cYes, gLen, gAll, blsOf, sRaise, gNe_str, gEq_str, gIsN_non, gIsN_tup, gIsN_lst, gNotN_non, gNotN_tup, gNotN_lst, runF, sSeq, sIf, sNx, sPar, sSet, sAsg, sRet, sDrop, eA, eF, eC, eV, eOr, eAnd, eNot, eIf, lC, lN, mE, mV, mC, mN, mTup, mLst, Tg.put, tgPuts, D.fz, fzs, D.clean, cleans, frz, fzAt, le_size, lt_size, gLt_val, gGt_val, gLe_val, gGe_val, gSub_val, gNe_int, gEq_int, gEq_qd, gNe_qd, gAdd, gNeg, gGcd, gTup, gLst, gIx, gNe_bl, gEq_bl, gIsN_qd, gNotN_qd, gInt, gAbs, atI, ixN, hneg, hneg']
    rw [h]
    have e : -d = (d.natAbs : Int) := by omega
    rw [← Rat.neg_divInt_neg, e]
    exact fr_pos _ _ (by omega) hd
  · have e : d = (d.natAbs : Int) := by omega
    rw [e]
    exact fr_pos _ _ (by omega) (by simpa using hd)
theorem plus_val {a b : Rat} (ha : Sz a) (hb : Sz b) : F_plus [qd a, qd b] = .val (qd (a + b)) := by
  have m1 : gMul [.int a.num, .int (b.den : Int)] = .val (.int (a.num * b.den)) := gMul_val ha.num (by simpa using hb.den) (by decide) (by decide) (by decide)
  have m2 : gMul [.int b.num, .int (a.den : Int)] = .val (.int (b.num * a.den)) := gMul_val hb.num (by simpa using ha.den) (by decide) (by decide) (by decide)
  have m3 : gMul [.int (a.den : Int), .int (b.den : Int)] = .val (.int ((a.den : Int) * b.den)) := gMul_val (by simpa using ha.den) (by simpa using hb.den) (by decide) (by decide) (by decide)
  have f := F_fraction_val (a.num * b.den + b.num * a.den) ((a.den : Int) * b.den) (by have := a.den_nz; have := b.den_nz; exact Int.mul_ne_zero (by omega) (by omega)) (Nat.lt_of_lt_of_le (natAbs_mul_lt (a := 400) (b := 400) (by simpa using ha.den) (by simpa using hb.den)) (by decide +kernel))
  rw [show Rat.divInt (a.num * b.den + b.num * a.den) ((a.den : Int) * b.den) = a + b by rw [Rat.add_def']; rw [← Rat.divInt_ofNat]; simp] at f
  unfold F_plus G_plus
  simp [mMeth, gAppend, keysOf, getP, pathL, putP, eLc2, lcL2, sFor, forL, giSeq, giRng1, giRng2, giEnum, seqOf, eLc, lcL, wipeE, cYes, gLen, gAll, blsOf, sRaise, gNe_str, gEq_str, gIsN_non, gIsN_tup, gIsN_lst, gNotN_non, gNotN_tup, gNotN_lst, runF, sSeq, sIf, sNx, sPar, sSet, sAsg, sRet, sDrop, eA, eF, eC, eV, eOr, eAnd, eNot, eIf, lC, lN, mE, mV, mC, mN, mTup, mLst, Tg.put, tgPuts, D.fz, fzs, D.clean, cleans, frz, fzAt, le_size, lt_size, gLt_val, gGt_val, gLe_val, gGe_val, gSub_val, gNe_int, gEq_int, gEq_qd, gNe_qd, gAdd, gNeg, gGcd, gTup, gLst, gIx, gNe_bl, gEq_bl, gIsN_qd, gNotN_qd, gInt, gAbs, atI, ixN, qd, m1, m2, m3]
  rw [f]
  simp [qd]
theorem minus_val {a b : Rat} (ha : Sz a) (hb : Sz b) : F_minus [qd a, qd b] = .val (qd (a - b)) := by
  have m1 : gMul [.int a.num, .int (b.den : Int)] = .val (.int (a.num * b.den)) := gMul_val ha.num (by simpa using hb.den) (by decide) (by decide) (by decide)
  have m2 : gMul [.int b.num, .int (a.den : Int)] = .val (.int (b.num * a.den)) := gMul_val hb.num (by simpa using ha.den) (by decide) (by decide) (by decide)
  have m3 : gMul [.int (a.den : Int), .int (b.den : Int)] = .val (.int ((a.den : Int) * b.den)) := gMul_val (by simpa using ha.den) (by simpa using hb.den) (by decide) (by decide) (by decide)
  have f := F_fraction_val (a.num * b.den - b.num * a.den) ((a.den : Int) * b.den) (by have := a.den_nz; have := b.den_nz; exact Int.mul_ne_zero (by omega) (by omega)) (Nat.lt_of_lt_of_le (natAbs_mul_lt (a := 400) (b := 400) (by simpa using ha.den) (by simpa using hb.den)) (by decide +kernel))
  rw [show Rat.divInt (a.num * b.den - b.num * a.den) ((a.den : Int) * b.den) = a - b by rw [Rat.sub_def']; rw [← Rat.divInt_ofNat]; simp] at f
  unfold F_minus G_minus
  simp [mMeth, gAppend, keysOf, getP, pathL, putP, eLc2, lcL2, sFor, forL, giSeq, giRng1, giRng2, giEnum, seqOf, eLc, lcL, wipeE, cYes, gLen, gAll, blsOf, sRaise, gNe_str, gEq_str, gIsN_non, gIsN_tup, gIsN_lst, gNotN_non, gNotN_tup, gNotN_lst, runF, sSeq, sIf, sNx, sPar, sSet, sAsg, sRet, sDrop, eA, eF, eC, eV, eOr, eAnd, eNot, eIf, lC, lN, mE, mV, mC, mN, mTup, mLst, Tg.put, tgPuts, D.fz, fzs, D.clean, cleans, frz, fzAt, le_size, lt_size, gLt_val, gGt_val, gLe_val, gGe_val, gSub_val, gNe_int, gEq_int, gEq_qd, gNe_qd, gAdd, gNeg, gGcd, gTup, gLst, gIx, gNe_bl, gEq_bl, gIsN_qd, gNotN_qd, gInt, gAbs, atI, ixN, qd, m1, m2, m3]
  rw [f]
  simp [qd]
theorem over_val {a b : Rat} (ha : Sz a) (hb : Sz b) (h0 : b ≠ 0) : F_over [qd a, qd b] = .val (qd (a / b)) := by
  have m1 : gMul [.int a.num, .int (b.den : Int)] = .val (.int (a.num * b.den)) := gMul_val ha.num (by simpa using hb.den) (by decide) (by decide) (by decide)
  have m2 : gMul [.int (a.den : Int), .int b.num] = .val (.int (a.den * b.num)) := gMul_val (by simpa using ha.den) hb.num (by decide) (by decide) (by decide)
  have hn : b.num ≠ 0 := fun z => h0 (Rat.num_eq_zero.mp z)
  have f := F_fraction_val (a.num * b.den) ((a.den : Int) * b.num) (by have := a.den_nz; exact Int.mul_ne_zero (by omega) hn) (Nat.lt_of_lt_of_le (natAbs_mul_lt (a := 400) (b := 400) (by simpa using ha.den) hb.num) (by decide +kernel))
  rw [show Rat.divInt (a.num * b.den) ((a.den : Int) * b.num) = a / b by
    rw [Rat.div_def, Rat.inv_def]
    conv => rhs; rw [← Rat.num_divInt_den a]
    rw [Rat.divInt_mul_divInt]] at f
  unfold F_over G_over
  simp [mMeth, gAppend, keysOf, getP, pathL, putP, eLc2, lcL2, sFor, forL, giSeq, giRng1, giRng2, giEnum, seqOf, eLc, lcL, wipeE, cYes, gLen, gAll, blsOf, sRaise, gNe_str, gEq_str, gIsN_non, gIsN_tup, gIsN_lst, gNotN_non, gNotN_tup, gNotN_lst, runF, sSeq, sIf, sNx, sPar, sSet, sAsg, sRet, sDrop, eA, eF, eC, eV, eOr, eAnd, eNot, eIf, lC, lN, mE, mV, mC, mN, mTup, mLst, Tg.put, tgPuts, D.fz, fzs, D.clean, cleans, frz, fzAt, le_size, lt_size, gLt_val, gGt_val, gLe_val, gGe_val, gSub_val, gNe_int, gEq_int, gEq_qd, gNe_qd, gAdd, gNeg, gGcd, gTup, gLst, gIx, gNe_bl, gEq_bl, gIsN_qd, gNotN_qd, gInt, gAbs, atI, ixN, qd, m1, m2]
  rw [f]
  simp [qd]
theorem is_less_val {a b : Rat} (ha : Sz a) (hb : Sz b) : F_is_less [qd a, qd b] = .val (.bl (decide (a < b))) := by
  have m1 : gMul [.int a.num, .int (b.den : Int)] = .val (.int (a.num * b.den)) := gMul_val ha.num (by simpa using hb.den) (by decide) (by decide) (by decide)
  have m2 : gMul [.int b.num, .int (a.den : Int)] = .val (.int (b.num * a.den)) := gMul_val hb.num (by simpa using ha.den) (by decide) (by decide) (by decide)
  unfold F_is_less G_is_less
  simp [mMeth, gAppend, keysOf, getP, pathL, putP, eLc2, lcL2, sFor, forL, giSeq, giRng1, giRng2, giEnum, seqOf, eLc, lcL, wipeE, cYes, gLen, gAll, blsOf, sRaise, gNe_str, gEq_str, gIsN_non, gIsN_tup, gIsN_lst, gNotN_non, gNotN_tup, gNotN_lst, runF, sSeq, sIf, sNx, sPar, sSet, sAsg, sRet, sDrop, eA, eF, eC, eV, eOr, eAnd, eNot, eIf, lC, lN, mE, mV, mC, mN, mTup, mLst, Tg.put, tgPuts, D.fz, fzs, D.clean, cleans, frz, fzAt, le_size, lt_size, gLt_val, gGt_val, gLe_val, gGe_val, gSub_val, gNe_int, gEq_int, gEq_qd, gNe_qd, gAdd, gNeg, gGcd, gTup, gLst, gIx, gNe_bl, gEq_bl, gIsN_qd, gNotN_qd, gInt, gAbs, atI, ixN, qd, m1, m2, Rat.lt_iff]
theorem l_less_val {a b : Rat} (ha : Sz a) (hb : Sz b) : F_l_less [qd a, qd b] = .val (.bl (decide (a < b))) := by
  have m1 : gMul [.int a.num, .int (b.den : Int)] = .val (.int (a.num * b.den)) := gMul_val ha.num (by simpa using hb.den) (by decide) (by decide) (by decide)
  have m2 : gMul [.int b.num, .int (a.den : Int)] = .val (.int (b.num * a.den)) := gMul_val hb.num (by simpa using ha.den) (by decide) (by decide) (by decide)
  unfold F_l_less G_l_less
  simp [mMeth, gAppend, keysOf, getP, pathL, putP, eLc2, lcL2, sFor, forL, giSeq, giRng1, giRng2, giEnum, seqOf, eLc, lcL, wipeE, cYes, gLen, gAll, blsOf, sRaise, gNe_str, gEq_str, gIsN_non, gIsN_tup, gIsN_lst, gNotN_non, gNotN_tup, gNotN_lst, runF, sSeq, sIf, sNx, sPar, sSet, sAsg, sRet, sDrop, eA, eF, eC, eV, eOr, eAnd, eNot, eIf, lC, lN, mE, mV, mC, mN, mTup, mLst, Tg.put, tgPuts, D.fz, fzs, D.clean, cleans, frz, fzAt, le_size, lt_size, gLt_val, gGt_val, gLe_val, gGe_val, gSub_val, gNe_int, gEq_int, gEq_qd, gNe_qd, gAdd, gNeg, gGcd, gTup, gLst, gIx, gNe_bl, gEq_bl, gIsN_qd, gNotN_qd, gInt, gAbs, atI, ixN, qd, m1, m2, Rat.lt_iff]

theorem gcd_loop : ∀ (m : Nat) (i : Int), ∃ n j, whileN (eA gNe (lC (eV 1) (lC (eC (.int 0)) lN))) (sAsg (.tp [(.nm 0), (.nm 1)]) (mE [1, 0, 1] (eA gLst (lC (eV 1) (lC (eA gMod (lC (eA gInt (lC (eV 0) lN)) (lC (eV 1) lN))) lN))))) n [some (.int i), some (.int (m : Int))] = .nx [some (.int j), some (.int 0)] ∧ j.natAbs = Nat.gcd i.natAbs m := by
  intro m
  induction m using Nat.strongRecOn with
  | _ m ih =>
    intro i
    by_cases h0 : m = 0
    · subst h0
      refine ⟨1, i, ?_, by simp⟩
      simp [whileN, mMeth, gAppend, keysOf, getP, pathL, putP, eLc2, lcL2, sFor, forL, giSeq, giRng1, giRng2, giEnum, seqOf, eLc, lcL, wipeE, cYes, gLen, gAll, blsOf, sRaise, gNe_str, gEq_str, gIsN_non, gIsN_tup, gIsN_lst, gNotN_non, gNotN_tup, gNotN_lst, runF, sSeq, sIf, sNx, sPar, sSet, sAsg, sRet, sDrop, eA, eF, eC, eV, eOr, eAnd, eNot, eIf, lC, lN, mE, mV, mC, mN, mTup, mLst, Tg.put, tgPuts, D.fz, fzs, D.clean, cleans, frz, fzAt, le_size, lt_size, gLt_val, gGt_val, gLe_val, gGe_val, gSub_val, gNe_int, gEq_int, gEq_qd, gNe_qd, gAdd, gNeg, gGcd, gTup, gLst, gIx, gNe_bl, gEq_bl, gIsN_qd, gNotN_qd, gInt, gAbs, atI, ixN]
    · have lt : (i.fmod m).toNat < m := by
        have h1 := Int.fmod_nonneg_of_pos i (b := (m : Int)) (by omega)
        have h2 := Int.fmod_lt_of_pos i (b := (m : Int)) (by omega)
        omega
      obtain ⟨n, j, e, g⟩ := ih _ lt (m : Int)
      have hr : (((i.fmod m).toNat : Nat) : Int) = i.fmod m := Int.toNat_of_nonneg (Int.fmod_nonneg_of_pos i (by omega))
      refine ⟨n + 1, j, ?_, ?_⟩
      · rw [hr] at e
        have gm : gMod [.int i, .int (m : Int)] = .val (.int (i.fmod m)) := gMod_val (by omega)
        rw [← e]
        conv => lhs; unfold whileN
        simp [mMeth, gAppend, keysOf, getP, pathL, putP, eLc2, lcL2, sFor, forL, giSeq, giRng1, giRng2, giEnum, seqOf, eLc, lcL, wipeE, cYes, gLen, gAll, blsOf, sRaise, gNe_str, gEq_str, gIsN_non, gIsN_tup, gIsN_lst, gNotN_non, gNotN_tup, gNotN_lst, runF, sSeq, sIf, sNx, sPar, sSet, sAsg, sRet, sDrop, eA, eF, eC, eV, eOr, eAnd, eNot, eIf, lC, lN, mE, mV, mC, mN, mTup, mLst, Tg.put, tgPuts, D.fz, fzs, D.clean, cleans, frz, fzAt, le_size, lt_size, gLt_val, gGt_val, gLe_val, gGe_val, gSub_val, gNe_int, gEq_int, gEq_qd, gNe_qd, gAdd, gNeg, gGcd, gTup, gLst, gIx, gNe_bl, gEq_bl, gIsN_qd, gNotN_qd, gInt, gAbs, atI, ixN, gm, h0]
      · rw [g]
        have h3 : Int.gcd (i.fmod m) m = Int.gcd i m := by
          rw [Int.fmod_eq_emod_of_nonneg _ (by omega)]
          have h5 := Int.gcd_add_mul_left_left (m : Int) (i % (m : Int)) (i / (m : Int))
          rw [Int.emod_add_mul_ediv] at h5
          exact h5.symm
        have h4 : (i.fmod m).natAbs = (i.fmod m).toNat := by omega
        simp only [Int.gcd, h4, Int.natAbs_natCast] at h3
        rw [Int.natAbs_natCast, Nat.gcd_comm]
        exact h3
theorem l_gcd_val (i : Int) (m : Nat) : F_l_gcd [.int i, .int (m : Int)] = .val (.int ((Nat.gcd i.natAbs m : Nat) : Int)) := by
  obtain ⟨n, j, e, g⟩ := gcd_loop m i
  have w := sWhile_eq e (by simp)
  unfold F_l_gcd G_l_gcd
  simp only [runF, List.length_cons, List.length_nil, List.map_cons, List.map_nil, if_true, Nat.sub_self, List.replicate_zero, List.append_nil, Nat.zero_add, Nat.reduceAdd]
  rw [sSeq_nx w]
  rw [← g]
  simp [mMeth, gAppend, keysOf, getP, pathL, putP, eLc2, lcL2, sFor, forL, giSeq, giRng1, giRng2, giEnum, seqOf, eLc, lcL, wipeE, cYes, gLen, gAll, blsOf, sRaise, gNe_str, gEq_str, gIsN_non, gIsN_tup, gIsN_lst, gNotN_non, gNotN_tup, gNotN_lst, runF, sSeq, sIf, sNx, sPar, sSet, sAsg, sRet, sDrop, eA, eF, eC, eV, eOr, eAnd, eNot, eIf, lC, lN, mE, mV, mC, mN, mTup, mLst, Tg.put, tgPuts, D.fz, fzs, D.clean, cleans, frz, fzAt, le_size, lt_size, gLt_val, gGt_val, gLe_val, gGe_val, gSub_val, gNe_int, gEq_int, gEq_qd, gNe_qd, gAdd, gNeg, gGcd, gTup, gLst, gIx, gNe_bl, gEq_bl, gIsN_qd, gNotN_qd, gInt, gAbs, atI, ixN]
  omega
theorem l_low_val (n : Int) (d : Nat) (h0 : d ≠ 0) (hd : d < 2 ^ 900) : F_l_low [.int n, .int (d : Int)] = .val (qd (Rat.divInt n d)) := by
  have hg : 0 < Nat.gcd n.natAbs d := Nat.gcd_pos_of_pos_right _ (Nat.pos_of_ne_zero h0)
  have hl : Nat.gcd n.natAbs d < 2 ^ 900 := Nat.lt_of_le_of_lt (Nat.gcd_le_right _ (Nat.pos_of_ne_zero h0)) hd
  obtain ⟨e1, e2⟩ := gcd_fd n d h0
  have g1 : gDiv [.int n, .int ((Nat.gcd n.natAbs d : Nat) : Int)] = .val (.int (n.fdiv ((Nat.gcd n.natAbs d : Nat) : Int))) := gDiv_val (b := 900) (by omega) (by simpa using hl) (by decide) (by decide)
  have g2 : gDiv [.int (d : Int), .int ((Nat.gcd n.natAbs d : Nat) : Int)] = .val (.int ((d : Int).fdiv ((Nat.gcd n.natAbs d : Nat) : Int))) := gDiv_val (b := 900) (by omega) (by simpa using hl) (by decide) (by decide)
  rw [e1] at g1
  rw [e2] at g2
  have f := l_gcd_val n d
  unfold F_l_low G_l_low
  simp [mMeth, gAppend, keysOf, getP, pathL, putP, eLc2, lcL2, sFor, forL, giSeq, giRng1, giRng2, giEnum, seqOf, eLc, lcL, wipeE, cYes, gLen, gAll, blsOf, sRaise, gNe_str, gEq_str, gIsN_non, gIsN_tup, gIsN_lst, gNotN_non, gNotN_tup, gNotN_lst, runF, sSeq, sIf, sNx, sPar, sSet, sAsg, sRet, sDrop, eA, eF, eC, eV, eOr, eAnd, eNot, eIf, lC, lN, mE, mV, mC, mN, mTup, mLst, Tg.put, tgPuts, D.fz, fzs, D.clean, cleans, frz, fzAt, le_size, lt_size, gLt_val, gGt_val, gLe_val, gGe_val, gSub_val, gNe_int, gEq_int, gEq_qd, gNe_qd, gAdd, gNeg, gGcd, gTup, gLst, gIx, gNe_bl, gEq_bl, gIsN_qd, gNotN_qd, gInt, gAbs, atI, ixN, f, g1, g2, qd]
theorem l_low_val' (n d : Int) (h0 : 0 < d) (hd : d.natAbs < 2 ^ 900) : F_l_low [.int n, .int d] = .val (qd (Rat.divInt n d)) := by
  have e : d = (d.natAbs : Int) := by omega
  rw [e]
  exact l_low_val n _ (by omega) hd
theorem l_plus_val {a b : Rat} (ha : Sz a) (hb : Sz b) : F_l_plus [qd a, qd b] = .val (qd (a + b)) := by
  have m1 : gMul [.int a.num, .int (b.den : Int)] = .val (.int (a.num * b.den)) := gMul_val ha.num (by simpa using hb.den) (by decide) (by decide) (by decide)
  have m2 : gMul [.int b.num, .int (a.den : Int)] = .val (.int (b.num * a.den)) := gMul_val hb.num (by simpa using ha.den) (by decide) (by decide) (by decide)
  have m3 : gMul [.int (a.den : Int), .int (b.den : Int)] = .val (.int ((a.den : Int) * b.den)) := gMul_val (by simpa using ha.den) (by simpa using hb.den) (by decide) (by decide) (by decide)
  have f := l_low_val' (a.num * b.den + b.num * a.den) ((a.den : Int) * b.den) (by have := a.den_pos; have := b.den_pos; exact Int.mul_pos (by omega) (by omega)) (Nat.lt_of_lt_of_le (natAbs_mul_lt (a := 400) (b := 400) (by simpa using ha.den) (by simpa using hb.den)) (by decide +kernel))
  rw [show Rat.divInt (a.num * b.den + b.num * a.den) ((a.den : Int) * b.den) = a + b by rw [Rat.add_def']; rw [← Rat.divInt_ofNat]; simp] at f
  unfold F_l_plus G_l_plus
  simp [mMeth, gAppend, keysOf, getP, pathL, putP, eLc2, lcL2, sFor, forL, giSeq, giRng1, giRng2, giEnum, seqOf, eLc, lcL, wipeE, cYes, gLen, gAll, blsOf, sRaise, gNe_str, gEq_str, gIsN_non, gIsN_tup, gIsN_lst, gNotN_non, gNotN_tup, gNotN_lst, runF, sSeq, sIf, sNx, sPar, sSet, sAsg, sRet, sDrop, eA, eF, eC, eV, eOr, eAnd, eNot, eIf, lC, lN, mE, mV, mC, mN, mTup, mLst, Tg.put, tgPuts, D.fz, fzs, D.clean, cleans, frz, fzAt, le_size, lt_size, gLt_val, gGt_val, gLe_val, gGe_val, gSub_val, gNe_int, gEq_int, gEq_qd, gNe_qd, gAdd, gNeg, gGcd, gTup, gLst, gIx, gNe_bl, gEq_bl, gIsN_qd, gNotN_qd, gInt, gAbs, atI, ixN, qd, m1, m2, m3]
  rw [f]
  simp [qd]
theorem l_minus_val {a b : Rat} (ha : Sz a) (hb : Sz b) : F_l_minus [qd a, qd b] = .val (qd (a - b)) := by
  have m1 : gMul [.int a.num, .int (b.den : Int)] = .val (.int (a.num * b.den)) := gMul_val ha.num (by simpa using hb.den) (by decide) (by decide) (by decide)
  have m2 : gMul [.int b.num, .int (a.den : Int)] = .val (.int (b.num * a.den)) := gMul_val hb.num (by simpa using ha.den) (by decide) (by decide) (by decide)
  have m3 : gMul [.int (a.den : Int), .int (b.den : Int)] = .val (.int ((a.den : Int) * b.den)) := gMul_val (by simpa using ha.den) (by simpa using hb.den) (by decide) (by decide) (by decide)
  have f := l_low_val' (a.num * b.den - b.num * a.den) ((a.den : Int) * b.den) (by have := a.den_pos; have := b.den_pos; exact Int.mul_pos (by omega) (by omega)) (Nat.lt_of_lt_of_le (natAbs_mul_lt (a := 400) (b := 400) (by simpa using ha.den) (by simpa using hb.den)) (by decide +kernel))
  rw [show Rat.divInt (a.num * b.den - b.num * a.den) ((a.den : Int) * b.den) = a - b by rw [Rat.sub_def']; rw [← Rat.divInt_ofNat]; simp] at f
  unfold F_l_minus G_l_minus
  simp [mMeth, gAppend, keysOf, getP, pathL, putP, eLc2, lcL2, sFor, forL, giSeq, giRng1, giRng2, giEnum, seqOf, eLc, lcL, wipeE, cYes, gLen, gAll, blsOf, sRaise, gNe_str, gEq_str, gIsN_non, gIsN_tup, gIsN_lst, gNotN_non, gNotN_tup, gNotN_lst, runF, sSeq, sIf, sNx, sPar, sSet, sAsg, sRet, sDrop, eA, eF, eC, eV, eOr, eAnd, eNot, eIf, lC, lN, mE, mV, mC, mN, mTup, mLst, Tg.put, tgPuts, D.fz, fzs, D.clean, cleans, frz, fzAt, le_size, lt_size, gLt_val, gGt_val, gLe_val, gGe_val, gSub_val, gNe_int, gEq_int, gEq_qd, gNe_qd, gAdd, gNeg, gGcd, gTup, gLst, gIx, gNe_bl, gEq_bl, gIsN_qd, gNotN_qd, gInt, gAbs, atI, ixN, qd, m1, m2, m3]
  rw [f]
  simp [qd]
end DL

set_option Elab.async false
set_option linter.all false
set_option maxRecDepth 100000
set_option maxHeartbeats 2000000
namespace DL
open PySem PySem.Spec L2
open PyProof.Rows hiding St

theorem Sm.z {N M : Nat} {r : Rat} (h : Sm N M r) (hN : N ≠ 0) (h1 : M ≤ 1000000) (h2 : N ≤ 1000000) : Sz r := by
  have : M * N ≤ 1000000 * 1000000 := Nat.mul_le_mul h1 h2
  exact h.sz hN (Nat.lt_of_le_of_lt this (by decide +kernel)) (Nat.lt_of_le_of_lt h2 (by decide +kernel))
theorem Sm.mono {N M M' : Nat} {r : Rat} (h : Sm N M r) (h1 : M ≤ M') : Sm N M' r := by
  have : (M : Rat) ≤ (M' : Rat) := by exact_mod_cast h1
  exact ⟨h.on, by have := h.le; grind, by have := h.ge; grind⟩
theorem Sm.ofInt {N : Nat} (i : Int) {M : Nat} (h : i.natAbs ≤ M) : Sm N M (i : Rat) := by
  refine ⟨⟨i * N, by rw [Rat.intCast_mul, Rat.intCast_natCast]⟩, ?_, ?_⟩
  · rw [← Rat.intCast_natCast]; exact_mod_cast (by omega : i ≤ (M : Int))
  · rw [← Rat.intCast_natCast, ← Rat.intCast_neg]; exact_mod_cast (by omega : -(M : Int) ≤ i)
theorem Sm.zero {N M : Nat} : Sm N M 0 := Sm.ofInt 0 (by simp)
theorem Sm.one {N M : Nat} (h : 1 ≤ M) : Sm N M 1 := Sm.ofInt 1 (by simpa using h)
theorem qd0 : (D.tup [.int 0, .int 1]) = qd 0 := rfl
theorem qd1 : (D.tup [.int 1, .int 1]) = qd 1 := rfl
theorem is_fraction_val (r : Rat) : F_is_fraction [qd r] = .val (.bl true) := by
  have h := r.reduced
  have hp := r.den_pos
  unfold F_is_fraction G_is_fraction
  simp [mMeth, gAppend, keysOf, getP, pathL, putP, eLc2, lcL2, sFor, forL, giSeq, giRng1, giRng2, giEnum, seqOf, eLc, lcL, wipeE, cYes, gLen, gAll, blsOf, sRaise, gNe_str, gEq_str, gIsN_non, gIsN_tup, gIsN_lst, gNotN_non, gNotN_tup, gNotN_lst, runF, sSeq, sIf, sNx, sPar, sSet, sAsg, sRet, sDrop, eA, eF, eC, eV, eOr, eAnd, eNot, eIf, lC, lN, mE, mV, mC, mN, mTup, mLst, Tg.put, tgPuts, D.fz, fzs, D.clean, cleans, frz, fzAt, le_size, lt_size, gLt_val, gGt_val, gLe_val, gGe_val, gSub_val, gNe_int, gEq_int, gEq_qd, gNe_qd, gAdd, gNeg, gGcd, gTup, gLst, gIx, gNe_bl, gEq_bl, gIsN_qd, gNotN_qd, gInt, gAbs, atI, ixN, qd, hp]
  omega
theorem is_chance_val {r : Rat} (h : Sz r) : F_is_chance [qd r] = .val (.bl (decide (0 ≤ r ∧ r ≤ 1))) := by
  have e := is_fraction_val r
  have l := is_less_val (a := 1) (b := r) ⟨by decide +kernel, by decide +kernel⟩ h
  rw [← qd1] at l
  unfold F_is_chance G_is_chance
  unfold qd at *
  simp [mMeth, gAppend, keysOf, getP, pathL, putP, eLc2, lcL2, sFor, forL, giSeq, giRng1, giRng2, giEnum, seqOf, eLc, lcL, wipeE, cYes, gLen, gAll, blsOf, sRaise, gNe_str, gEq_str, gIsN_non, gIsN_tup, gIsN_lst, gNotN_non, gNotN_tup, gNotN_lst, runF, sSeq, sIf, sNx, sPar, sSet, sAsg, sRet, sDrop, eA, eF, eC, eV, eOr, eAnd, eNot, eIf, lC, lN, mE, mV, mC, mN, mTup, mLst, Tg.put, tgPuts, D.fz, fzs, D.clean, cleans, frz, fzAt, le_size, lt_size, gLt_val, gGt_val, gLe_val, gGe_val, gSub_val, gNe_int, gEq_int, gEq_qd, gNe_qd, gAdd, gNeg, gGcd, gTup, gLst, gIx, gNe_bl, gEq_bl, gIsN_qd, gNotN_qd, gInt, gAbs, atI, ixN, e, l, Rat.num_nonneg]
  have hn : (0 ≤ r.num) ↔ 0 ≤ r := Rat.num_nonneg
  by_cases h1 : 0 ≤ r <;> by_cases h2 : 1 < r <;> simp [h1, h2, hn, Rat.not_lt, Rat.not_le]
  all_goals grind
theorem total2_val {a b : Rat} {N : Nat} (hN : N ≠ 0) (h2 : N ≤ 1000000) (ha : Sm N 100 a) (hb : Sm N 100 b) : F_total [.lst false [qd a, qd b]] = .val (qd (a + b)) := by
  have p1 := plus_val (Sm.zero (N := N) (M := 100)|>.z hN (by decide) h2) (ha.z hN (by decide) h2)
  have p2 := plus_val (((Sm.zero (N := N) (M := 100)).add ha).z hN (by decide) h2) (hb.z hN (by decide) h2)
  rw [Rat.zero_add] at p1 p2
  unfold F_total G_total B_total_1
  simp [mMeth, gAppend, keysOf, getP, pathL, putP, eLc2, lcL2, sFor, forL, giSeq, giRng1, giRng2, giEnum, seqOf, eLc, lcL, wipeE, cYes, gLen, gAll, blsOf, sRaise, fz_qd, cln_qd, qd0, qd1, gNe_str, gEq_str, gIsN_non, gIsN_tup, gIsN_lst, gNotN_non, gNotN_tup, gNotN_lst, runF, sSeq, sIf, sNx, sPar, sSet, sAsg, sRet, sDrop, eA, eF, eC, eV, eOr, eAnd, eNot, eIf, lC, lN, mE, mV, mC, mN, mTup, mLst, Tg.put, tgPuts, D.fz, fzs, D.clean, cleans, frz, fzAt, le_size, lt_size, gLt_val, gGt_val, gLe_val, gGe_val, gSub_val, gNe_int, gEq_int, gEq_qd, gNe_qd, gAdd, gNeg, gGcd, gTup, gLst, gIx_tup, gIx_lst, gIx_scr, gIx_q0, gIx_q1, num_neg, num_zero, gNe_bl, gEq_bl, gIsN_qd, gNotN_qd, gInt, gAbs, atI, ixN, sFor, giSeq, seqOf, forL, fz_qd, cln_qd, p1, p2]
theorem total4_val {a b c d : Rat} {N : Nat} (hN : N ≠ 0) (h2 : N ≤ 1000000) (ha : Sm N 100 a) (hb : Sm N 100 b) (hc : Sm N 100 c) (hd : Sm N 100 d) : F_total [.lst false [qd a, qd b, qd c, qd d]] = .val (qd (a + b + c + d)) := by
  have p1 := plus_val (Sm.zero (N := N) (M := 100)|>.z hN (by decide) h2) (ha.z hN (by decide) h2)
  have p2 := plus_val (((Sm.zero (N := N) (M := 100)).add ha).z hN (by decide) h2) (hb.z hN (by decide) h2)
  rw [Rat.zero_add] at p1 p2
  have p3 := plus_val ((ha.add hb).z hN (by decide) h2) (hc.z hN (by decide) h2)
  have p4 := plus_val (((ha.add hb).add hc).z hN (by decide) h2) (hd.z hN (by decide) h2)
  unfold F_total G_total B_total_1
  simp [mMeth, gAppend, keysOf, getP, pathL, putP, eLc2, lcL2, sFor, forL, giSeq, giRng1, giRng2, giEnum, seqOf, eLc, lcL, wipeE, cYes, gLen, gAll, blsOf, sRaise, fz_qd, cln_qd, qd0, qd1, gNe_str, gEq_str, gIsN_non, gIsN_tup, gIsN_lst, gNotN_non, gNotN_tup, gNotN_lst, runF, sSeq, sIf, sNx, sPar, sSet, sAsg, sRet, sDrop, eA, eF, eC, eV, eOr, eAnd, eNot, eIf, lC, lN, mE, mV, mC, mN, mTup, mLst, Tg.put, tgPuts, D.fz, fzs, D.clean, cleans, frz, fzAt, le_size, lt_size, gLt_val, gGt_val, gLe_val, gGe_val, gSub_val, gNe_int, gEq_int, gEq_qd, gNe_qd, gAdd, gNeg, gGcd, gTup, gLst, gIx_tup, gIx_lst, gIx_scr, gIx_q0, gIx_q1, num_neg, num_zero, gNe_bl, gEq_bl, gIsN_qd, gNotN_qd, gInt, gAbs, atI, ixN, sFor, giSeq, seqOf, forL, fz_qd, cln_qd, p1, p2, p3, p4]
theorem l_sum4_val {a b c d : Rat} {N : Nat} (hN : N ≠ 0) (h2 : N ≤ 1000000) (ha : Sm N 100 a) (hb : Sm N 100 b) (hc : Sm N 100 c) (hd : Sm N 100 d) : F_l_sum [.lst false [qd a, qd b, qd c, qd d]] = .val (qd (a + b + c + d)) := by
  have p1 := l_plus_val (Sm.zero (N := N) (M := 100)|>.z hN (by decide) h2) (ha.z hN (by decide) h2)
  have p2 := l_plus_val (((Sm.zero (N := N) (M := 100)).add ha).z hN (by decide) h2) (hb.z hN (by decide) h2)
  rw [Rat.zero_add] at p1 p2
  have p3 := l_plus_val ((ha.add hb).z hN (by decide) h2) (hc.z hN (by decide) h2)
  have p4 := l_plus_val (((ha.add hb).add hc).z hN (by decide) h2) (hd.z hN (by decide) h2)
  unfold F_l_sum G_l_sum B_l_sum_1
  simp [mMeth, gAppend, keysOf, getP, pathL, putP, eLc2, lcL2, sFor, forL, giSeq, giRng1, giRng2, giEnum, seqOf, eLc, lcL, wipeE, cYes, gLen, gAll, blsOf, sRaise, fz_qd, cln_qd, qd0, qd1, gNe_str, gEq_str, gIsN_non, gIsN_tup, gIsN_lst, gNotN_non, gNotN_tup, gNotN_lst, runF, sSeq, sIf, sNx, sPar, sSet, sAsg, sRet, sDrop, eA, eF, eC, eV, eOr, eAnd, eNot, eIf, lC, lN, mE, mV, mC, mN, mTup, mLst, Tg.put, tgPuts, D.fz, fzs, D.clean, cleans, frz, fzAt, le_size, lt_size, gLt_val, gGt_val, gLe_val, gGe_val, gSub_val, gNe_int, gEq_int, gEq_qd, gNe_qd, gAdd, gNeg, gGcd, gTup, gLst, gIx_tup, gIx_lst, gIx_scr, gIx_q0, gIx_q1, num_neg, num_zero, gNe_bl, gEq_bl, gIsN_qd, gNotN_qd, gInt, gAbs, atI, ixN, sFor, giSeq, seqOf, forL, fz_qd, cln_qd, p1, p2, p3, p4]
/-- the record -/
def rc (a b c d z o : Rat) : D := .tup [.lst false [.lst false [qd a, qd b], .lst false [qd c, qd d]], qd z, qd o]
theorem rc_fz (a b c d z o : Rat) : (rc a b c d z o).fz = rc a b c d z o := by simp [rc, D.fz, fzs, fz_qd]
theorem rc_cln (a b c d z o : Rat) : (rc a b c d z o).clean = false := by simp [rc, D.clean, cleans]
theorem gains_val {a b c d z o : Rat} {N : Nat} (hN : N ≠ 0) (h2 : N ≤ 1000000) (hb : Sm N 100 b) (hd : Sm N 100 d) (hz : Sm N 100 z) (ho : Sm N 100 o) : F_gains_of [rc a b c d z o] = .val (.tup [qd (o - d), qd (z - b)]) := by
  have p1 := minus_val (ho.z hN (by decide) h2) (hd.z hN (by decide) h2)
  have p2 := minus_val (hz.z hN (by decide) h2) (hb.z hN (by decide) h2)
  unfold F_gains_of G_gains_of rc
  simp [mMeth, gAppend, keysOf, getP, pathL, putP, eLc2, lcL2, sFor, forL, giSeq, giRng1, giRng2, giEnum, seqOf, eLc, lcL, wipeE, cYes, gLen, gAll, blsOf, sRaise, fz_qd, cln_qd, qd0, qd1, gNe_str, gEq_str, gIsN_non, gIsN_tup, gIsN_lst, gNotN_non, gNotN_tup, gNotN_lst, runF, sSeq, sIf, sNx, sPar, sSet, sAsg, sRet, sDrop, eA, eF, eC, eV, eOr, eAnd, eNot, eIf, lC, lN, mE, mV, mC, mN, mTup, mLst, Tg.put, tgPuts, D.fz, fzs, D.clean, cleans, frz, fzAt, le_size, lt_size, gLt_val, gGt_val, gLe_val, gGe_val, gSub_val, gNe_int, gEq_int, gEq_qd, gNe_qd, gAdd, gNeg, gGcd, gTup, gLst, gIx_tup, gIx_lst, gIx_scr, gIx_q0, gIx_q1, num_neg, num_zero, gNe_bl, gEq_bl, gIsN_qd, gNotN_qd, gInt, gAbs, atI, ixN, fz_qd, cln_qd, p1, p2]
theorem greater_val {a b : Rat} (ha : Sz a) (hb : Sz b) : F_greater [qd a, qd b] = .val (qd (if a < b then b else a)) := by
  have l := is_less_val ha hb
  unfold F_greater G_greater
  by_cases h : a < b <;> simp [h] at l <;> simp [mMeth, gAppend, keysOf, getP, pathL, putP, eLc2, lcL2, sFor, forL, giSeq, giRng1, giRng2, giEnum, seqOf, eLc, lcL, wipeE, cYes, gLen, gAll, blsOf, sRaise, fz_qd, cln_qd, qd0, qd1, gNe_str, gEq_str, gIsN_non, gIsN_tup, gIsN_lst, gNotN_non, gNotN_tup, gNotN_lst, runF, sSeq, sIf, sNx, sPar, sSet, sAsg, sRet, sDrop, eA, eF, eC, eV, eOr, eAnd, eNot, eIf, lC, lN, mE, mV, mC, mN, mTup, mLst, Tg.put, tgPuts, D.fz, fzs, D.clean, cleans, frz, fzAt, le_size, lt_size, gLt_val, gGt_val, gLe_val, gGe_val, gSub_val, gNe_int, gEq_int, gEq_qd, gNe_qd, gAdd, gNeg, gGcd, gTup, gLst, gIx_tup, gIx_lst, gIx_scr, gIx_q0, gIx_q1, num_neg, num_zero, gNe_bl, gEq_bl, gIsN_qd, gNotN_qd, gInt, gAbs, atI, ixN, fz_qd, cln_qd, l, h]
theorem lesser_val {a b : Rat} (ha : Sz a) (hb : Sz b) : F_lesser [qd a, qd b] = .val (qd (if a < b then a else b)) := by
  have l := is_less_val ha hb
  unfold F_lesser G_lesser
  by_cases h : a < b <;> simp [h] at l <;> simp [mMeth, gAppend, keysOf, getP, pathL, putP, eLc2, lcL2, sFor, forL, giSeq, giRng1, giRng2, giEnum, seqOf, eLc, lcL, wipeE, cYes, gLen, gAll, blsOf, sRaise, fz_qd, cln_qd, qd0, qd1, gNe_str, gEq_str, gIsN_non, gIsN_tup, gIsN_lst, gNotN_non, gNotN_tup, gNotN_lst, runF, sSeq, sIf, sNx, sPar, sSet, sAsg, sRet, sDrop, eA, eF, eC, eV, eOr, eAnd, eNot, eIf, lC, lN, mE, mV, mC, mN, mTup, mLst, Tg.put, tgPuts, D.fz, fzs, D.clean, cleans, frz, fzAt, le_size, lt_size, gLt_val, gGt_val, gLe_val, gGe_val, gSub_val, gNe_int, gEq_int, gEq_qd, gNe_qd, gAdd, gNeg, gGcd, gTup, gLst, gIx_tup, gIx_lst, gIx_scr, gIx_q0, gIx_q1, num_neg, num_zero, gNe_bl, gEq_bl, gIsN_qd, gNotN_qd, gInt, gAbs, atI, ixN, fz_qd, cln_qd, l, h]
end DL

set_option Elab.async false
set_option linter.all false
set_option maxRecDepth 100000
set_option maxHeartbeats 2000000
namespace DL
open PySem PySem.Spec L2
open PyProof.Rows hiding St

/-- all small -/
structure Rs (N : Nat) (a b c d z o : Rat) : Prop where
  n0 : N ≠ 0
  n1 : N ≤ 1000000
  a : Sm N 100 a
  b : Sm N 100 b
  c : Sm N 100 c
  d : Sm N 100 d
  z : Sm N 100 z
  o : Sm N 100 o
theorem gNe_qd1 {a b : Rat} (h : a = b) : gNe [qd a, qd b] = .val (.bl false) := by rw [gNe_qd]; simp [h]
/-- what check_record does with a record of two rows of two chances each -/
theorem check_val {a b c d z o : Rat} {N : Nat} (R : Rs N a b c d z o) (h0 : 0 ≤ a ∧ a ≤ 1 ∧ 0 ≤ b ∧ b ≤ 1 ∧ 0 ≤ c ∧ c ≤ 1 ∧ 0 ≤ d ∧ d ≤ 1 ∧ 0 ≤ z ∧ z ≤ 1 ∧ 0 ≤ o ∧ o ≤ 1) (h1 : a + b + c + d = 1) :
    F_check_record [rc a b c d z o] = if (o - d < 0 ∨ a + b < o - d) ∨ z - b < 0 ∨ c + d < z - b then .exc "Unfit" 0 else .val .non := by
  have ca := is_chance_val (R.a.z R.n0 (by decide) R.n1)
  have cb := is_chance_val (R.b.z R.n0 (by decide) R.n1)
  have cc := is_chance_val (R.c.z R.n0 (by decide) R.n1)
  have cd := is_chance_val (R.d.z R.n0 (by decide) R.n1)
  have cz := is_chance_val (R.z.z R.n0 (by decide) R.n1)
  have co := is_chance_val (R.o.z R.n0 (by decide) R.n1)
  obtain ⟨a0, a1, b0, b1, c0, c1, d0, d1, z0, z1, o0, o1⟩ := h0
  simp only [a0, a1, b0, b1, c0, c1, d0, d1, z0, z1, o0, o1, and_self, decide_true] at ca cb cc cd cz co
  have t := total4_val R.n0 R.n1 R.a R.b R.c R.d
  rw [h1] at t
  have g := gains_val (a := a) (c := c) R.n0 R.n1 R.b R.d R.z R.o
  have t1 := total2_val R.n0 R.n1 R.a R.b
  have t2 := total2_val R.n0 R.n1 R.c R.d
  have l1 := is_less_val (a := a + b) (b := o - d) ((R.a.add R.b).z R.n0 (by decide) R.n1) ((R.o.sub R.d).z R.n0 (by decide) R.n1)
  have l2 := is_less_val (a := c + d) (b := z - b) ((R.c.add R.d).z R.n0 (by decide) R.n1) ((R.z.sub R.b).z R.n0 (by decide) R.n1)
  have n1 : gNe [qd 1, qd 1] = .val (.bl false) := gNe_qd1 rfl
  have i2 : ∀ r : Rat, gIx [qd r, .int 0] = .val (.int r.num) := fun r => rfl
  have hn : ∀ r : Rat, r.num < 0 ↔ r < 0 := fun r => by
    have := Rat.num_nonneg (q := r)
    constructor
    · intro h; apply Rat.not_le.mp; intro z; have := this.mpr z; omega
    · intro h; apply Int.not_le.mp; intro z; exact absurd (this.mp z) (Rat.not_le.mpr h)
  unfold rc at g
  unfold F_check_record G_check_record B_check_record_1 rc
  by_cases u1 : o - d < 0 <;> by_cases u2 : a + b < o - d <;> by_cases u3 : z - b < 0 <;> by_cases u4 : c + d < z - b <;>
    simp only [u1, u2, u3, u4, decide_true, decide_false] at l1 l2 <;>
    simp [mMeth, gAppend, keysOf, getP, pathL, putP, eLc2, lcL2, sFor, forL, giSeq, giRng1, giRng2, giEnum, seqOf, eLc, lcL, wipeE, cYes, gLen, gAll, blsOf, sRaise, fz_qd, cln_qd, qd0, qd1, gNe_str, gEq_str, gIsN_non, gIsN_tup, gIsN_lst, gNotN_non, gNotN_tup, gNotN_lst, runF, sSeq, sIf, sNx, sPar, sSet, sAsg, sRet, sDrop, eA, eF, eC, eV, eOr, eAnd, eNot, eIf, lC, lN, mE, mV, mC, mN, mTup, mLst, Tg.put, tgPuts, D.fz, fzs, D.clean, cleans, frz, fzAt, le_size, lt_size, gLt_val, gGt_val, gLe_val, gGe_val, gSub_val, gNe_int, gEq_int, gEq_qd, gNe_qd, gAdd, gNeg, gGcd, gTup, gLst, gIx_tup, gIx_lst, gIx_scr, gIx_q0, gIx_q1, num_neg, num_zero, gNe_bl, gEq_bl, gIsN_qd, gNotN_qd, gInt, gAbs, atI, ixN, ca, cb, cc, cd, cz, co, t, n1, g, List.zipIdx, i2, t1, t2, l1, l2, hn, u1, u2, u3, u4]
theorem helped_val {a b c d z o : Rat} {N : Nat} (R : Rs N a b c d z o) : F_helped [rc a b c d z o] = .val (.tup [
    .tup [qd (if 0 < o - d - b then o - d - b else 0), qd (if a < o - d then a else o - d)],
    .tup [qd (if 0 < d - (z - b) then d - (z - b) else 0), qd (if d < c + d - (z - b) then d else c + d - (z - b))]]) := by
  have g := gains_val (a := a) (c := c) R.n0 R.n1 R.b R.d R.z R.o
  have m1 := minus_val (a := o - d) (b := b) ((R.o.sub R.d).z R.n0 (by decide) R.n1) (R.b.z R.n0 (by decide) R.n1)
  have m2 := minus_val (a := d) (b := z - b) (R.d.z R.n0 (by decide) R.n1) ((R.z.sub R.b).z R.n0 (by decide) R.n1)
  have t2 := total2_val R.n0 R.n1 R.c R.d
  have m3 := minus_val (a := c + d) (b := z - b) ((R.c.add R.d).z R.n0 (by decide) R.n1) ((R.z.sub R.b).z R.n0 (by decide) R.n1)
  have z0 : Sz 0 := (Sm.zero (N := N) (M := 100)).z R.n0 (by decide) R.n1
  have x1 := greater_val (a := 0) (b := o - d - b) z0 (((R.o.sub R.d).sub R.b).z R.n0 (by decide) R.n1)
  have x2 := lesser_val (a := a) (b := o - d) (R.a.z R.n0 (by decide) R.n1) ((R.o.sub R.d).z R.n0 (by decide) R.n1)
  have x3 := greater_val (a := 0) (b := d - (z - b)) z0 ((R.d.sub (R.z.sub R.b)).z R.n0 (by decide) R.n1)
  have x4 := lesser_val (a := d) (b := c + d - (z - b)) (R.d.z R.n0 (by decide) R.n1) (((R.c.add R.d).sub (R.z.sub R.b)).z R.n0 (by decide) R.n1)
  unfold rc at g
  unfold F_helped G_helped rc
  simp [mMeth, gAppend, keysOf, getP, pathL, putP, eLc2, lcL2, sFor, forL, giSeq, giRng1, giRng2, giEnum, seqOf, eLc, lcL, wipeE, cYes, gLen, gAll, blsOf, sRaise, fz_qd, cln_qd, qd0, qd1, gNe_str, gEq_str, gIsN_non, gIsN_tup, gIsN_lst, gNotN_non, gNotN_tup, gNotN_lst, runF, sSeq, sIf, sNx, sPar, sSet, sAsg, sRet, sDrop, eA, eF, eC, eV, eOr, eAnd, eNot, eIf, lC, lN, mE, mV, mC, mN, mTup, mLst, Tg.put, tgPuts, D.fz, fzs, D.clean, cleans, frz, fzAt, le_size, lt_size, gLt_val, gGt_val, gLe_val, gGe_val, gSub_val, gNe_int, gEq_int, gEq_qd, gNe_qd, gAdd, gNeg, gGcd, gTup, gLst, gIx_tup, gIx_lst, gIx_scr, gIx_q0, gIx_q1, num_neg, num_zero, gNe_bl, gEq_bl, gIsN_qd, gNotN_qd, gInt, gAbs, atI, ixN, g, m1, m2, t2, m3, x1, x2, x3, x4]
end DL

set_option Elab.async false
set_option linter.all false
set_option maxRecDepth 100000
set_option maxHeartbeats 2000000
namespace DL
open PySem PySem.Spec L2
open PyProof.Rows hiding St

def hz0 (b d o : Rat) : Rat := if 0 < o - d - b then o - d - b else 0
def hz1 (a d o : Rat) : Rat := if a < o - d then a else o - d
def ho0 (b d z : Rat) : Rat := if 0 < d - (z - b) then d - (z - b) else 0
def ho1 (b c d z : Rat) : Rat := if d < c + d - (z - b) then d else c + d - (z - b)
theorem sm_hz0 {N : Nat} {a b c d z o : Rat} (R : Rs N a b c d z o) : Sm N 500 (hz0 b d o) := by
  unfold hz0; split
  · exact ((R.o.sub R.d).sub R.b).mono (by decide)
  · exact Sm.zero
theorem sm_hz1 {N : Nat} {a b c d z o : Rat} (R : Rs N a b c d z o) : Sm N 500 (hz1 a d o) := by
  unfold hz1; split
  · exact R.a.mono (by decide)
  · exact (R.o.sub R.d).mono (by decide)
theorem sm_ho0 {N : Nat} {a b c d z o : Rat} (R : Rs N a b c d z o) : Sm N 500 (ho0 b d z) := by
  unfold ho0; split
  · exact (R.d.sub (R.z.sub R.b)).mono (by decide)
  · exact Sm.zero
theorem sm_ho1 {N : Nat} {a b c d z o : Rat} (R : Rs N a b c d z o) : Sm N 500 (ho1 b c d z) := by
  unfold ho1; split
  · exact R.d.mono (by decide)
  · exact ((R.c.add R.d).sub (R.z.sub R.b)).mono (by decide)
theorem helped_val' {a b c d z o : Rat} {N : Nat} (R : Rs N a b c d z o) : F_helped [rc a b c d z o] = .val (.tup [.tup [qd (hz0 b d o), qd (hz1 a d o)], .tup [qd (ho0 b d z), qd (ho1 b c d z)]]) := helped_val R
theorem s1 : (("needed" : Str) = "both") = False := by simp; decide +kernel
theorem s2 : (("enough" : Str) = "both") = False := by simp; decide +kernel
theorem s3 : (("enough" : Str) = "needed") = False := by simp; decide +kernel
theorem s4 : (("needed" : Str) = "enough") = False := by simp; decide +kernel
theorem s5 : (("greatest" : Str) = "least") = False := by simp; decide +kernel
theorem ends_both {a b c d z o : Rat} {N : Nat} (R : Rs N a b c d z o) : F_ends_of [rc a b c d z o, .str "both"] = .val (.tup [qd (hz0 b d o + ho0 b d z), qd (hz1 a d o + ho1 b c d z)]) := by
  have g := helped_val' R
  have p1 := plus_val ((sm_hz0 R).z R.n0 (by decide) R.n1) ((sm_ho0 R).z R.n0 (by decide) R.n1)
  have p2 := plus_val ((sm_hz1 R).z R.n0 (by decide) R.n1) ((sm_ho1 R).z R.n0 (by decide) R.n1)
  unfold rc at g
  unfold F_ends_of G_ends_of rc
  simp [mMeth, gAppend, keysOf, getP, pathL, putP, eLc2, lcL2, sFor, forL, giSeq, giRng1, giRng2, giEnum, seqOf, eLc, lcL, wipeE, cYes, gLen, gAll, blsOf, sRaise, fz_qd, cln_qd, qd0, qd1, gNe_str, gEq_str, gIsN_non, gIsN_tup, gIsN_lst, gNotN_non, gNotN_tup, gNotN_lst, runF, sSeq, sIf, sNx, sPar, sSet, sAsg, sRet, sDrop, eA, eF, eC, eV, eOr, eAnd, eNot, eIf, lC, lN, mE, mV, mC, mN, mTup, mLst, Tg.put, tgPuts, D.fz, fzs, D.clean, cleans, frz, fzAt, le_size, lt_size, gLt_val, gGt_val, gLe_val, gGe_val, gSub_val, gNe_int, gEq_int, gEq_qd, gNe_qd, gAdd, gNeg, gGcd, gTup, gLst, gIx_tup, gIx_lst, gIx_scr, gIx_q0, gIx_q1, num_neg, num_zero, gNe_bl, gEq_bl, gIsN_qd, gNotN_qd, gInt, gAbs, atI, ixN, g, p1, p2]
/-- what ends_of gives for needed, enough -/
def qends (x y w : Rat) : D := if w = 0 then .non else .tup [qd (x / w), qd (y / w)]
theorem ends_needed {a b c d z o : Rat} {N : Nat} (R : Rs N a b c d z o) : F_ends_of [rc a b c d z o, .str "needed"] = .val (qends (ho0 b d z) (ho1 b c d z) d) := by
  have g := helped_val' R
  have p1 := over_val (b := d) ((sm_ho0 R).z R.n0 (by decide) R.n1) (R.d.z R.n0 (by decide) R.n1)
  have p2 := over_val (b := d) ((sm_ho1 R).z R.n0 (by decide) R.n1) (R.d.z R.n0 (by decide) R.n1)
  unfold rc at g
  unfold F_ends_of G_ends_of rc qends
  by_cases h : d = 0
  · subst h; simp [mMeth, gAppend, keysOf, getP, pathL, putP, eLc2, lcL2, sFor, forL, giSeq, giRng1, giRng2, giEnum, seqOf, eLc, lcL, wipeE, cYes, gLen, gAll, blsOf, sRaise, fz_qd, cln_qd, qd0, qd1, gNe_str, gEq_str, gIsN_non, gIsN_tup, gIsN_lst, gNotN_non, gNotN_tup, gNotN_lst, runF, sSeq, sIf, sNx, sPar, sSet, sAsg, sRet, sDrop, eA, eF, eC, eV, eOr, eAnd, eNot, eIf, lC, lN, mE, mV, mC, mN, mTup, mLst, Tg.put, tgPuts, D.fz, fzs, D.clean, cleans, frz, fzAt, le_size, lt_size, gLt_val, gGt_val, gLe_val, gGe_val, gSub_val, gNe_int, gEq_int, gEq_qd, gNe_qd, gAdd, gNeg, gGcd, gTup, gLst, gIx_tup, gIx_lst, gIx_scr, gIx_q0, gIx_q1, num_neg, num_zero, gNe_bl, gEq_bl, gIsN_qd, gNotN_qd, gInt, gAbs, atI, ixN, g, s1]
  · simp [mMeth, gAppend, keysOf, getP, pathL, putP, eLc2, lcL2, sFor, forL, giSeq, giRng1, giRng2, giEnum, seqOf, eLc, lcL, wipeE, cYes, gLen, gAll, blsOf, sRaise, fz_qd, cln_qd, qd0, qd1, gNe_str, gEq_str, gIsN_non, gIsN_tup, gIsN_lst, gNotN_non, gNotN_tup, gNotN_lst, runF, sSeq, sIf, sNx, sPar, sSet, sAsg, sRet, sDrop, eA, eF, eC, eV, eOr, eAnd, eNot, eIf, lC, lN, mE, mV, mC, mN, mTup, mLst, Tg.put, tgPuts, D.fz, fzs, D.clean, cleans, frz, fzAt, le_size, lt_size, gLt_val, gGt_val, gLe_val, gGe_val, gSub_val, gNe_int, gEq_int, gEq_qd, gNe_qd, gAdd, gNeg, gGcd, gTup, gLst, gIx_tup, gIx_lst, gIx_scr, gIx_q0, gIx_q1, num_neg, num_zero, gNe_bl, gEq_bl, gIsN_qd, gNotN_qd, gInt, gAbs, atI, ixN, g, s1, h, p1 h, p2 h]
theorem ends_enough {a b c d z o : Rat} {N : Nat} (R : Rs N a b c d z o) : F_ends_of [rc a b c d z o, .str "enough"] = .val (qends (hz0 b d o) (hz1 a d o) a) := by
  have g := helped_val' R
  have p1 := over_val (b := a) ((sm_hz0 R).z R.n0 (by decide) R.n1) (R.a.z R.n0 (by decide) R.n1)
  have p2 := over_val (b := a) ((sm_hz1 R).z R.n0 (by decide) R.n1) (R.a.z R.n0 (by decide) R.n1)
  unfold rc at g
  unfold F_ends_of G_ends_of rc qends
  by_cases h : a = 0
  · subst h; simp [mMeth, gAppend, keysOf, getP, pathL, putP, eLc2, lcL2, sFor, forL, giSeq, giRng1, giRng2, giEnum, seqOf, eLc, lcL, wipeE, cYes, gLen, gAll, blsOf, sRaise, fz_qd, cln_qd, qd0, qd1, gNe_str, gEq_str, gIsN_non, gIsN_tup, gIsN_lst, gNotN_non, gNotN_tup, gNotN_lst, runF, sSeq, sIf, sNx, sPar, sSet, sAsg, sRet, sDrop, eA, eF, eC, eV, eOr, eAnd, eNot, eIf, lC, lN, mE, mV, mC, mN, mTup, mLst, Tg.put, tgPuts, D.fz, fzs, D.clean, cleans, frz, fzAt, le_size, lt_size, gLt_val, gGt_val, gLe_val, gGe_val, gSub_val, gNe_int, gEq_int, gEq_qd, gNe_qd, gAdd, gNeg, gGcd, gTup, gLst, gIx_tup, gIx_lst, gIx_scr, gIx_q0, gIx_q1, num_neg, num_zero, gNe_bl, gEq_bl, gIsN_qd, gNotN_qd, gInt, gAbs, atI, ixN, g, s2, s3]
  · simp [mMeth, gAppend, keysOf, getP, pathL, putP, eLc2, lcL2, sFor, forL, giSeq, giRng1, giRng2, giEnum, seqOf, eLc, lcL, wipeE, cYes, gLen, gAll, blsOf, sRaise, fz_qd, cln_qd, qd0, qd1, gNe_str, gEq_str, gIsN_non, gIsN_tup, gIsN_lst, gNotN_non, gNotN_tup, gNotN_lst, runF, sSeq, sIf, sNx, sPar, sSet, sAsg, sRet, sDrop, eA, eF, eC, eV, eOr, eAnd, eNot, eIf, lC, lN, mE, mV, mC, mN, mTup, mLst, Tg.put, tgPuts, D.fz, fzs, D.clean, cleans, frz, fzAt, le_size, lt_size, gLt_val, gGt_val, gLe_val, gGe_val, gSub_val, gNe_int, gEq_int, gEq_qd, gNe_qd, gAdd, gNeg, gGcd, gTup, gLst, gIx_tup, gIx_lst, gIx_scr, gIx_q0, gIx_q1, num_neg, num_zero, gNe_bl, gEq_bl, gIsN_qd, gNotN_qd, gInt, gAbs, atI, ixN, g, s2, s3, h, p1 h, p2 h]
theorem ends_val {a b c d z o : Rat} {x : Str} {r : D} (h : F_check_record [rc a b c d z o] = .val .non) (h2 : F_ends_of [rc a b c d z o, .str x] = .val r) : F_ends [rc a b c d z o, .str x] = .val r := by
  unfold F_ends G_ends
  unfold rc at *
  simp [mMeth, gAppend, keysOf, getP, pathL, putP, eLc2, lcL2, sFor, forL, giSeq, giRng1, giRng2, giEnum, seqOf, eLc, lcL, wipeE, cYes, gLen, gAll, blsOf, sRaise, fz_qd, cln_qd, qd0, qd1, gNe_str, gEq_str, gIsN_non, gIsN_tup, gIsN_lst, gNotN_non, gNotN_tup, gNotN_lst, runF, sSeq, sIf, sNx, sPar, sSet, sAsg, sRet, sDrop, eA, eF, eC, eV, eOr, eAnd, eNot, eIf, lC, lN, mE, mV, mC, mN, mTup, mLst, Tg.put, tgPuts, D.fz, fzs, D.clean, cleans, frz, fzAt, le_size, lt_size, gLt_val, gGt_val, gLe_val, gGe_val, gSub_val, gNe_int, gEq_int, gEq_qd, gNe_qd, gAdd, gNeg, gGcd, gTup, gLst, gIx_tup, gIx_lst, gIx_scr, gIx_q0, gIx_q1, num_neg, num_zero, gNe_bl, gEq_bl, gIsN_qd, gNotN_qd, gInt, gAbs, atI, ixN, h, h2]
def tw (a b c d z o x y : Rat) : D := .lst true [.lst true [qd (a - x), qd x, qd (b - (o - d - x)), qd (o - d - x)], .lst true [qd (c + d - (z - b) - y), qd y, qd (z - b - (d - y)), qd (d - y)]]
theorem types_with_val {a b c d z o x y : Rat} {N : Nat} (R : Rs N a b c d z o) (hx : Sm N 500 x) (hy : Sm N 500 y) : F_types_with [rc a b c d z o, qd x, qd y] = .val (tw a b c d z o x y) := by
  have g := gains_val (a := a) (c := c) R.n0 R.n1 R.b R.d R.z R.o
  have X := hx.z R.n0 (by decide) R.n1
  have Y := hy.z R.n0 (by decide) R.n1
  have A := R.a.z R.n0 (by decide) R.n1
  have B := R.b.z R.n0 (by decide) R.n1
  have DD := R.d.z R.n0 (by decide) R.n1
  have od := (R.o.sub R.d).z R.n0 (by decide) R.n1
  have zb := (R.z.sub R.b).z R.n0 (by decide) R.n1
  have m1 := minus_val A X
  have m2 := minus_val od X
  have m3 := minus_val B (((R.o.sub R.d).sub hx).z R.n0 (by decide) R.n1)
  have m4 := minus_val DD Y
  have t := total2_val R.n0 R.n1 R.c R.d
  have m5 := minus_val ((R.c.add R.d).z R.n0 (by decide) R.n1) zb
  have m6 := minus_val (((R.c.add R.d).sub (R.z.sub R.b)).z R.n0 (by decide) R.n1) Y
  have m7 := minus_val zb ((R.d.sub hy).z R.n0 (by decide) R.n1)
  unfold rc at g
  unfold F_types_with G_types_with rc tw
  simp [mMeth, gAppend, keysOf, getP, pathL, putP, eLc2, lcL2, sFor, forL, giSeq, giRng1, giRng2, giEnum, seqOf, eLc, lcL, wipeE, cYes, gLen, gAll, blsOf, sRaise, fz_qd, cln_qd, qd0, qd1, gNe_str, gEq_str, gIsN_non, gIsN_tup, gIsN_lst, gNotN_non, gNotN_tup, gNotN_lst, runF, sSeq, sIf, sNx, sPar, sSet, sAsg, sRet, sDrop, eA, eF, eC, eV, eOr, eAnd, eNot, eIf, lC, lN, mE, mV, mC, mN, mTup, mLst, Tg.put, tgPuts, D.fz, fzs, D.clean, cleans, frz, fzAt, le_size, lt_size, gLt_val, gGt_val, gLe_val, gGe_val, gSub_val, gNe_int, gEq_int, gEq_qd, gNe_qd, gAdd, gNeg, gGcd, gTup, gLst, gIx_tup, gIx_lst, gIx_scr, gIx_q0, gIx_q1, num_neg, num_zero, gNe_bl, gEq_bl, gIsN_qd, gNotN_qd, gInt, gAbs, atI, ixN, g, m1, m2, m3, m4, t, m5, m6, m7]
theorem types_least {a b c d z o : Rat} {N : Nat} (R : Rs N a b c d z o) {x : Str} {u v : Rat} (h : F_check_record [rc a b c d z o] = .val .non) (h2 : F_ends_of [rc a b c d z o, .str x] = .val (.tup [qd u, qd v])) :
    F_types_at [rc a b c d z o, .str x, .str "least"] = .val (tw a b c d z o (hz0 b d o) (ho0 b d z)) := by
  have g := helped_val' R
  have t := types_with_val R (sm_hz0 R) (sm_ho0 R)
  have tf : (tw a b c d z o (hz0 b d o) (ho0 b d z)).clean = true := by simp [tw, D.clean, cleans, cln_qd]
  unfold rc at *
  unfold F_types_at G_types_at
  simp [mMeth, gAppend, keysOf, getP, pathL, putP, eLc2, lcL2, sFor, forL, giSeq, giRng1, giRng2, giEnum, seqOf, eLc, lcL, wipeE, cYes, gLen, gAll, blsOf, sRaise, fz_qd, cln_qd, qd0, qd1, gNe_str, gEq_str, gIsN_non, gIsN_tup, gIsN_lst, gNotN_non, gNotN_tup, gNotN_lst, runF, sSeq, sIf, sNx, sPar, sSet, sAsg, sRet, sDrop, eA, eF, eC, eV, eOr, eAnd, eNot, eIf, lC, lN, mE, mV, mC, mN, mTup, mLst, Tg.put, tgPuts, D.fz, fzs, D.clean, cleans, frz, fzAt, le_size, lt_size, gLt_val, gGt_val, gLe_val, gGe_val, gSub_val, gNe_int, gEq_int, gEq_qd, gNe_qd, gAdd, gNeg, gGcd, gTup, gLst, gIx_tup, gIx_lst, gIx_scr, gIx_q0, gIx_q1, num_neg, num_zero, gNe_bl, gEq_bl, gIsN_qd, gNotN_qd, gInt, gAbs, atI, ixN, h, h2, g, t, tf]
theorem types_greatest {a b c d z o : Rat} {N : Nat} (R : Rs N a b c d z o) {x : Str} {u v : Rat} (h : F_check_record [rc a b c d z o] = .val .non) (h2 : F_ends_of [rc a b c d z o, .str x] = .val (.tup [qd u, qd v])) :
    F_types_at [rc a b c d z o, .str x, .str "greatest"] = .val (tw a b c d z o (hz1 a d o) (ho1 b c d z)) := by
  have g := helped_val' R
  have t := types_with_val R (sm_hz1 R) (sm_ho1 R)
  have tf : (tw a b c d z o (hz1 a d o) (ho1 b c d z)).clean = true := by simp [tw, D.clean, cleans, cln_qd]
  unfold rc at *
  unfold F_types_at G_types_at
  simp [mMeth, gAppend, keysOf, getP, pathL, putP, eLc2, lcL2, sFor, forL, giSeq, giRng1, giRng2, giEnum, seqOf, eLc, lcL, wipeE, cYes, gLen, gAll, blsOf, sRaise, fz_qd, cln_qd, qd0, qd1, gNe_str, gEq_str, gIsN_non, gIsN_tup, gIsN_lst, gNotN_non, gNotN_tup, gNotN_lst, runF, sSeq, sIf, sNx, sPar, sSet, sAsg, sRet, sDrop, eA, eF, eC, eV, eOr, eAnd, eNot, eIf, lC, lN, mE, mV, mC, mN, mTup, mLst, Tg.put, tgPuts, D.fz, fzs, D.clean, cleans, frz, fzAt, le_size, lt_size, gLt_val, gGt_val, gLe_val, gGe_val, gSub_val, gNe_int, gEq_int, gEq_qd, gNe_qd, gAdd, gNeg, gGcd, gTup, gLst, gIx_tup, gIx_lst, gIx_scr, gIx_q0, gIx_q1, num_neg, num_zero, gNe_bl, gEq_bl, gIsN_qd, gNotN_qd, gInt, gAbs, atI, ixN, h, h2, g, t, tf, s5]
theorem types_none {a b c d z o : Rat} {x e : Str} (h : F_check_record [rc a b c d z o] = .val .non) (h2 : F_ends_of [rc a b c d z o, .str x] = .val .non) :
    F_types_at [rc a b c d z o, .str x, .str e] = .val .non := by
  unfold rc at *
  unfold F_types_at G_types_at
  simp [mMeth, gAppend, keysOf, getP, pathL, putP, eLc2, lcL2, sFor, forL, giSeq, giRng1, giRng2, giEnum, seqOf, eLc, lcL, wipeE, cYes, gLen, gAll, blsOf, sRaise, fz_qd, cln_qd, qd0, qd1, gNe_str, gEq_str, gIsN_non, gIsN_tup, gIsN_lst, gNotN_non, gNotN_tup, gNotN_lst, runF, sSeq, sIf, sNx, sPar, sSet, sAsg, sRet, sDrop, eA, eF, eC, eV, eOr, eAnd, eNot, eIf, lC, lN, mE, mV, mC, mN, mTup, mLst, Tg.put, tgPuts, D.fz, fzs, D.clean, cleans, frz, fzAt, le_size, lt_size, gLt_val, gGt_val, gLe_val, gGe_val, gSub_val, gNe_int, gEq_int, gEq_qd, gNe_qd, gAdd, gNeg, gGcd, gTup, gLst, gIx_tup, gIx_lst, gIx_scr, gIx_q0, gIx_q1, num_neg, num_zero, gNe_bl, gEq_bl, gIsN_qd, gNotN_qd, gInt, gAbs, atI, ixN, h, h2]
def tl (x0 x1 x2 x3 y0 y1 y2 y3 : Rat) : D := .lst false [.lst false [qd x0, qd x1, qd x2, qd x3], .lst false [qd y0, qd y1, qd y2, qd y3]]
structure Ts (N : Nat) (x0 x1 x2 x3 y0 y1 y2 y3 : Rat) : Prop where
  n0 : N ≠ 0
  n1 : N ≤ 1000000
  x0 : Sm N 100 x0
  x1 : Sm N 100 x1
  x2 : Sm N 100 x2
  x3 : Sm N 100 x3
  y0 : Sm N 100 y0
  y1 : Sm N 100 y1
  y2 : Sm N 100 y2
  y3 : Sm N 100 y3
def rct (x0 x1 x2 x3 y0 y1 y2 y3 : Rat) : D := .tup [.lst true [.lst true [qd (x0 + x1), qd (x2 + x3)], .lst true [qd (y0 + y2), qd (y1 + y3)]], qd (x2 + x3 + y2 + y3), qd (x1 + x3 + y1 + y3)]
theorem l_record_val {N : Nat} {x0 x1 x2 x3 y0 y1 y2 y3 : Rat} (T : Ts N x0 x1 x2 x3 y0 y1 y2 y3) : F_l_record [tl x0 x1 x2 x3 y0 y1 y2 y3] = .val (rct x0 x1 x2 x3 y0 y1 y2 y3) := by
  have p1 := l_plus_val (T.x0.z T.n0 (by decide) T.n1) (T.x1.z T.n0 (by decide) T.n1)
  have p2 := l_plus_val (T.x2.z T.n0 (by decide) T.n1) (T.x3.z T.n0 (by decide) T.n1)
  have p3 := l_plus_val (T.y0.z T.n0 (by decide) T.n1) (T.y2.z T.n0 (by decide) T.n1)
  have p4 := l_plus_val (T.y1.z T.n0 (by decide) T.n1) (T.y3.z T.n0 (by decide) T.n1)
  have q1 := l_sum4_val T.n0 T.n1 T.x2 T.x3 T.y2 T.y3
  have q2 := l_sum4_val T.n0 T.n1 T.x1 T.x3 T.y1 T.y3
  unfold F_l_record G_l_record tl rct
  simp [mMeth, gAppend, keysOf, getP, pathL, putP, eLc2, lcL2, sFor, forL, giSeq, giRng1, giRng2, giEnum, seqOf, eLc, lcL, wipeE, cYes, gLen, gAll, blsOf, sRaise, fz_qd, cln_qd, qd0, qd1, gNe_str, gEq_str, gIsN_non, gIsN_tup, gIsN_lst, gNotN_non, gNotN_tup, gNotN_lst, runF, sSeq, sIf, sNx, sPar, sSet, sAsg, sRet, sDrop, eA, eF, eC, eV, eOr, eAnd, eNot, eIf, lC, lN, mE, mV, mC, mN, mTup, mLst, Tg.put, tgPuts, D.fz, fzs, D.clean, cleans, frz, fzAt, le_size, lt_size, gLt_val, gGt_val, gLe_val, gGe_val, gSub_val, gNe_int, gEq_int, gEq_qd, gNe_qd, gAdd, gNeg, gGcd, gTup, gLst, gIx_tup, gIx_lst, gIx_scr, gIx_q0, gIx_q1, num_neg, num_zero, gNe_bl, gEq_bl, gIsN_qd, gNotN_qd, gInt, gAbs, atI, ixN, p1, p2, p3, p4, q1, q2]
theorem l_chance_both {N : Nat} {x0 x1 x2 x3 y0 y1 y2 y3 : Rat} (T : Ts N x0 x1 x2 x3 y0 y1 y2 y3) : F_l_chance [tl x0 x1 x2 x3 y0 y1 y2 y3, .str "both"] = .val (qd (x1 + y1)) := by
  have p1 := l_plus_val (T.x1.z T.n0 (by decide) T.n1) (T.y1.z T.n0 (by decide) T.n1)
  unfold F_l_chance G_l_chance tl
  simp [mMeth, gAppend, keysOf, getP, pathL, putP, eLc2, lcL2, sFor, forL, giSeq, giRng1, giRng2, giEnum, seqOf, eLc, lcL, wipeE, cYes, gLen, gAll, blsOf, sRaise, fz_qd, cln_qd, qd0, qd1, gNe_str, gEq_str, gIsN_non, gIsN_tup, gIsN_lst, gNotN_non, gNotN_tup, gNotN_lst, runF, sSeq, sIf, sNx, sPar, sSet, sAsg, sRet, sDrop, eA, eF, eC, eV, eOr, eAnd, eNot, eIf, lC, lN, mE, mV, mC, mN, mTup, mLst, Tg.put, tgPuts, D.fz, fzs, D.clean, cleans, frz, fzAt, le_size, lt_size, gLt_val, gGt_val, gLe_val, gGe_val, gSub_val, gNe_int, gEq_int, gEq_qd, gNe_qd, gAdd, gNeg, gGcd, gTup, gLst, gIx_tup, gIx_lst, gIx_scr, gIx_q0, gIx_q1, num_neg, num_zero, gNe_bl, gEq_bl, gIsN_qd, gNotN_qd, gInt, gAbs, atI, ixN, p1]
def qn (x w : Rat) : D := if w = 0 then .non else qd (x / w)
theorem low_div {x w : Rat} (hx : Sz x) (hw : Sz w) (h : 0 < w) : F_l_low [.int (x.num * w.den), .int (x.den * w.num)] = .val (qd (x / w)) := by
  have hn : 0 < w.num := by
    have h1 := Rat.num_nonneg (q := w)
    have h2 := Rat.num_eq_zero (q := w)
    have : 0 ≤ w.num := h1.mpr (by grind)
    have : w.num ≠ 0 := fun z => by have := h2.mp z; grind
    omega
  have f := l_low_val' (x.num * w.den) ((x.den : Int) * w.num) (by have := x.den_pos; exact Int.mul_pos (by omega) hn) (Nat.lt_of_lt_of_le (natAbs_mul_lt (a := 400) (b := 400) (by simpa using hx.den) hw.num) (by decide +kernel))
  rw [show Rat.divInt (x.num * w.den) ((x.den : Int) * w.num) = x / w by
    rw [Rat.div_def, Rat.inv_def]
    conv => rhs; rw [← Rat.num_divInt_den x]
    rw [Rat.divInt_mul_divInt]] at f
  exact f
theorem mul_nd {x w : Rat} (hx : Sz x) (hw : Sz w) : gMul [.int x.num, .int (w.den : Int)] = .val (.int (x.num * w.den)) := gMul_val hx.num (by simpa using hw.den) (by decide) (by decide) (by decide)
theorem mul_dn {x w : Rat} (hx : Sz x) (hw : Sz w) : gMul [.int (x.den : Int), .int w.num] = .val (.int (x.den * w.num)) := gMul_val (by simpa using hx.den) hw.num (by decide) (by decide) (by decide)
theorem l_chance_needed {N : Nat} {x0 x1 x2 x3 y0 y1 y2 y3 : Rat} (T : Ts N x0 x1 x2 x3 y0 y1 y2 y3) (h : 0 ≤ y1 + y3) : F_l_chance [tl x0 x1 x2 x3 y0 y1 y2 y3, .str "needed"] = .val (qn y1 (y1 + y3)) := by
  have Y := T.y1.z T.n0 (by decide) T.n1
  have W := (T.y1.add T.y3).z T.n0 (by decide) T.n1
  have p1 := l_plus_val Y (T.y3.z T.n0 (by decide) T.n1)
  have m1 := mul_nd Y W
  have m2 := mul_dn Y W
  unfold F_l_chance G_l_chance tl qn
  by_cases h0 : y1 + y3 = 0
  · simp [mMeth, gAppend, keysOf, getP, pathL, putP, eLc2, lcL2, sFor, forL, giSeq, giRng1, giRng2, giEnum, seqOf, eLc, lcL, wipeE, cYes, gLen, gAll, blsOf, sRaise, fz_qd, cln_qd, qd0, qd1, gNe_str, gEq_str, gIsN_non, gIsN_tup, gIsN_lst, gNotN_non, gNotN_tup, gNotN_lst, runF, sSeq, sIf, sNx, sPar, sSet, sAsg, sRet, sDrop, eA, eF, eC, eV, eOr, eAnd, eNot, eIf, lC, lN, mE, mV, mC, mN, mTup, mLst, Tg.put, tgPuts, D.fz, fzs, D.clean, cleans, frz, fzAt, le_size, lt_size, gLt_val, gGt_val, gLe_val, gGe_val, gSub_val, gNe_int, gEq_int, gEq_qd, gNe_qd, gAdd, gNeg, gGcd, gTup, gLst, gIx_tup, gIx_lst, gIx_scr, gIx_q0, gIx_q1, num_neg, num_zero, gNe_bl, gEq_bl, gIsN_qd, gNotN_qd, gInt, gAbs, atI, ixN, p1, s1, s4, h0]
  · have f := low_div Y W (by grind)
    simp [mMeth, gAppend, keysOf, getP, pathL, putP, eLc2, lcL2, sFor, forL, giSeq, giRng1, giRng2, giEnum, seqOf, eLc, lcL, wipeE, cYes, gLen, gAll, blsOf, sRaise, fz_qd, cln_qd, qd0, qd1, gNe_str, gEq_str, gIsN_non, gIsN_tup, gIsN_lst, gNotN_non, gNotN_tup, gNotN_lst, runF, sSeq, sIf, sNx, sPar, sSet, sAsg, sRet, sDrop, eA, eF, eC, eV, eOr, eAnd, eNot, eIf, lC, lN, mE, mV, mC, mN, mTup, mLst, Tg.put, tgPuts, D.fz, fzs, D.clean, cleans, frz, fzAt, le_size, lt_size, gLt_val, gGt_val, gLe_val, gGe_val, gSub_val, gNe_int, gEq_int, gEq_qd, gNe_qd, gAdd, gNeg, gGcd, gTup, gLst, gIx_tup, gIx_lst, gIx_scr, gIx_q0, gIx_q1, num_neg, num_zero, gNe_bl, gEq_bl, gIsN_qd, gNotN_qd, gInt, gAbs, atI, ixN, p1, s1, s4, h0, m1, m2, f]
theorem l_chance_enough {N : Nat} {x0 x1 x2 x3 y0 y1 y2 y3 : Rat} (T : Ts N x0 x1 x2 x3 y0 y1 y2 y3) (h : 0 ≤ x0 + x1) : F_l_chance [tl x0 x1 x2 x3 y0 y1 y2 y3, .str "enough"] = .val (qn x1 (x0 + x1)) := by
  have Y := T.x1.z T.n0 (by decide) T.n1
  have W := (T.x0.add T.x1).z T.n0 (by decide) T.n1
  have p0 := l_plus_val (T.y1.z T.n0 (by decide) T.n1) (T.y3.z T.n0 (by decide) T.n1)
  have p1 := l_plus_val (T.x0.z T.n0 (by decide) T.n1) Y
  have m1 := mul_nd Y W
  have m2 := mul_dn Y W
  unfold F_l_chance G_l_chance tl qn
  by_cases h0 : x0 + x1 = 0
  · simp [mMeth, gAppend, keysOf, getP, pathL, putP, eLc2, lcL2, sFor, forL, giSeq, giRng1, giRng2, giEnum, seqOf, eLc, lcL, wipeE, cYes, gLen, gAll, blsOf, sRaise, fz_qd, cln_qd, qd0, qd1, gNe_str, gEq_str, gIsN_non, gIsN_tup, gIsN_lst, gNotN_non, gNotN_tup, gNotN_lst, runF, sSeq, sIf, sNx, sPar, sSet, sAsg, sRet, sDrop, eA, eF, eC, eV, eOr, eAnd, eNot, eIf, lC, lN, mE, mV, mC, mN, mTup, mLst, Tg.put, tgPuts, D.fz, fzs, D.clean, cleans, frz, fzAt, le_size, lt_size, gLt_val, gGt_val, gLe_val, gGe_val, gSub_val, gNe_int, gEq_int, gEq_qd, gNe_qd, gAdd, gNeg, gGcd, gTup, gLst, gIx_tup, gIx_lst, gIx_scr, gIx_q0, gIx_q1, num_neg, num_zero, gNe_bl, gEq_bl, gIsN_qd, gNotN_qd, gInt, gAbs, atI, ixN, p0, p1, s2, h0]
  · have f := low_div Y W (by grind)
    simp [mMeth, gAppend, keysOf, getP, pathL, putP, eLc2, lcL2, sFor, forL, giSeq, giRng1, giRng2, giEnum, seqOf, eLc, lcL, wipeE, cYes, gLen, gAll, blsOf, sRaise, fz_qd, cln_qd, qd0, qd1, gNe_str, gEq_str, gIsN_non, gIsN_tup, gIsN_lst, gNotN_non, gNotN_tup, gNotN_lst, runF, sSeq, sIf, sNx, sPar, sSet, sAsg, sRet, sDrop, eA, eF, eC, eV, eOr, eAnd, eNot, eIf, lC, lN, mE, mV, mC, mN, mTup, mLst, Tg.put, tgPuts, D.fz, fzs, D.clean, cleans, frz, fzAt, le_size, lt_size, gLt_val, gGt_val, gLe_val, gGe_val, gSub_val, gNe_int, gEq_int, gEq_qd, gNe_qd, gAdd, gNeg, gGcd, gTup, gLst, gIx_tup, gIx_lst, gIx_scr, gIx_q0, gIx_q1, num_neg, num_zero, gNe_bl, gEq_bl, gIsN_qd, gNotN_qd, gInt, gAbs, atI, ixN, p0, p1, s2, h0, m1, m2, f]
theorem chance_both {N : Nat} {x0 x1 x2 x3 y0 y1 y2 y3 : Rat} (T : Ts N x0 x1 x2 x3 y0 y1 y2 y3) : F_chance_by [tl x0 x1 x2 x3 y0 y1 y2 y3, .str "both"] = .val (qd (x1 + y1)) := by
  have p1 := plus_val (T.x1.z T.n0 (by decide) T.n1) (T.y1.z T.n0 (by decide) T.n1)
  unfold F_chance_by G_chance_by tl
  simp [mMeth, gAppend, keysOf, getP, pathL, putP, eLc2, lcL2, sFor, forL, giSeq, giRng1, giRng2, giEnum, seqOf, eLc, lcL, wipeE, cYes, gLen, gAll, blsOf, sRaise, fz_qd, cln_qd, qd0, qd1, gNe_str, gEq_str, gIsN_non, gIsN_tup, gIsN_lst, gNotN_non, gNotN_tup, gNotN_lst, runF, sSeq, sIf, sNx, sPar, sSet, sAsg, sRet, sDrop, eA, eF, eC, eV, eOr, eAnd, eNot, eIf, lC, lN, mE, mV, mC, mN, mTup, mLst, Tg.put, tgPuts, D.fz, fzs, D.clean, cleans, frz, fzAt, le_size, lt_size, gLt_val, gGt_val, gLe_val, gGe_val, gSub_val, gNe_int, gEq_int, gEq_qd, gNe_qd, gAdd, gNeg, gGcd, gTup, gLst, gIx_tup, gIx_lst, gIx_scr, gIx_q0, gIx_q1, num_neg, num_zero, gNe_bl, gEq_bl, gIsN_qd, gNotN_qd, gInt, gAbs, atI, ixN, p1]
theorem chance_needed {N : Nat} {x0 x1 x2 x3 y0 y1 y2 y3 : Rat} (T : Ts N x0 x1 x2 x3 y0 y1 y2 y3) : F_chance_by [tl x0 x1 x2 x3 y0 y1 y2 y3, .str "needed"] = .val (qn y1 (y1 + y3)) := by
  have Y := T.y1.z T.n0 (by decide) T.n1
  have W := (T.y1.add T.y3).z T.n0 (by decide) T.n1
  have p1 := plus_val Y (T.y3.z T.n0 (by decide) T.n1)
  unfold F_chance_by G_chance_by tl qn
  by_cases h0 : y1 + y3 = 0
  · simp [mMeth, gAppend, keysOf, getP, pathL, putP, eLc2, lcL2, sFor, forL, giSeq, giRng1, giRng2, giEnum, seqOf, eLc, lcL, wipeE, cYes, gLen, gAll, blsOf, sRaise, fz_qd, cln_qd, qd0, qd1, gNe_str, gEq_str, gIsN_non, gIsN_tup, gIsN_lst, gNotN_non, gNotN_tup, gNotN_lst, runF, sSeq, sIf, sNx, sPar, sSet, sAsg, sRet, sDrop, eA, eF, eC, eV, eOr, eAnd, eNot, eIf, lC, lN, mE, mV, mC, mN, mTup, mLst, Tg.put, tgPuts, D.fz, fzs, D.clean, cleans, frz, fzAt, le_size, lt_size, gLt_val, gGt_val, gLe_val, gGe_val, gSub_val, gNe_int, gEq_int, gEq_qd, gNe_qd, gAdd, gNeg, gGcd, gTup, gLst, gIx_tup, gIx_lst, gIx_scr, gIx_q0, gIx_q1, num_neg, num_zero, gNe_bl, gEq_bl, gIsN_qd, gNotN_qd, gInt, gAbs, atI, ixN, p1, s1, h0]
  · have f := over_val Y W h0
    simp [mMeth, gAppend, keysOf, getP, pathL, putP, eLc2, lcL2, sFor, forL, giSeq, giRng1, giRng2, giEnum, seqOf, eLc, lcL, wipeE, cYes, gLen, gAll, blsOf, sRaise, fz_qd, cln_qd, qd0, qd1, gNe_str, gEq_str, gIsN_non, gIsN_tup, gIsN_lst, gNotN_non, gNotN_tup, gNotN_lst, runF, sSeq, sIf, sNx, sPar, sSet, sAsg, sRet, sDrop, eA, eF, eC, eV, eOr, eAnd, eNot, eIf, lC, lN, mE, mV, mC, mN, mTup, mLst, Tg.put, tgPuts, D.fz, fzs, D.clean, cleans, frz, fzAt, le_size, lt_size, gLt_val, gGt_val, gLe_val, gGe_val, gSub_val, gNe_int, gEq_int, gEq_qd, gNe_qd, gAdd, gNeg, gGcd, gTup, gLst, gIx_tup, gIx_lst, gIx_scr, gIx_q0, gIx_q1, num_neg, num_zero, gNe_bl, gEq_bl, gIsN_qd, gNotN_qd, gInt, gAbs, atI, ixN, p1, s1, h0, f]
theorem chance_enough {N : Nat} {x0 x1 x2 x3 y0 y1 y2 y3 : Rat} (T : Ts N x0 x1 x2 x3 y0 y1 y2 y3) : F_chance_by [tl x0 x1 x2 x3 y0 y1 y2 y3, .str "enough"] = .val (qn x1 (x0 + x1)) := by
  have Y := T.x1.z T.n0 (by decide) T.n1
  have W := (T.x0.add T.x1).z T.n0 (by decide) T.n1
  have p1 := plus_val (T.x0.z T.n0 (by decide) T.n1) Y
  unfold F_chance_by G_chance_by tl qn
  by_cases h0 : x0 + x1 = 0
  · simp [mMeth, gAppend, keysOf, getP, pathL, putP, eLc2, lcL2, sFor, forL, giSeq, giRng1, giRng2, giEnum, seqOf, eLc, lcL, wipeE, cYes, gLen, gAll, blsOf, sRaise, fz_qd, cln_qd, qd0, qd1, gNe_str, gEq_str, gIsN_non, gIsN_tup, gIsN_lst, gNotN_non, gNotN_tup, gNotN_lst, runF, sSeq, sIf, sNx, sPar, sSet, sAsg, sRet, sDrop, eA, eF, eC, eV, eOr, eAnd, eNot, eIf, lC, lN, mE, mV, mC, mN, mTup, mLst, Tg.put, tgPuts, D.fz, fzs, D.clean, cleans, frz, fzAt, le_size, lt_size, gLt_val, gGt_val, gLe_val, gGe_val, gSub_val, gNe_int, gEq_int, gEq_qd, gNe_qd, gAdd, gNeg, gGcd, gTup, gLst, gIx_tup, gIx_lst, gIx_scr, gIx_q0, gIx_q1, num_neg, num_zero, gNe_bl, gEq_bl, gIsN_qd, gNotN_qd, gInt, gAbs, atI, ixN, p1, s2, s3, h0]
  · have f := over_val Y W h0
    simp [mMeth, gAppend, keysOf, getP, pathL, putP, eLc2, lcL2, sFor, forL, giSeq, giRng1, giRng2, giEnum, seqOf, eLc, lcL, wipeE, cYes, gLen, gAll, blsOf, sRaise, fz_qd, cln_qd, qd0, qd1, gNe_str, gEq_str, gIsN_non, gIsN_tup, gIsN_lst, gNotN_non, gNotN_tup, gNotN_lst, runF, sSeq, sIf, sNx, sPar, sSet, sAsg, sRet, sDrop, eA, eF, eC, eV, eOr, eAnd, eNot, eIf, lC, lN, mE, mV, mC, mN, mTup, mLst, Tg.put, tgPuts, D.fz, fzs, D.clean, cleans, frz, fzAt, le_size, lt_size, gLt_val, gGt_val, gLe_val, gGe_val, gSub_val, gNe_int, gEq_int, gEq_qd, gNe_qd, gAdd, gNeg, gGcd, gTup, gLst, gIx_tup, gIx_lst, gIx_scr, gIx_q0, gIx_q1, num_neg, num_zero, gNe_bl, gEq_bl, gIsN_qd, gNotN_qd, gInt, gAbs, atI, ixN, p1, s2, s3, h0, f]
end DL

set_option Elab.async false
set_option linter.all false
set_option maxRecDepth 100000
set_option maxHeartbeats 2000000
namespace DL
open PySem PySem.Spec L2
open PyProof.Rows hiding St

theorem gNe_qq {s t : Bool} {p q a b : Rat} : gNe [.lst s [qd p, qd q], .lst t [qd a, qd b]] = .val (.bl (!decide (p = a ∧ q = b))) := by
  rw [gNe_pl (by simp [D.pl, pls, qd_pl]) (by simp [D.pl, pls, qd_pl]) (by simp [D.dp, dps, qd_dp]) (by simp [D.dp, dps, qd_dp])]
  simp [D.fz, fzs, fz_qd, qd_inj]
theorem gNe_ii {s t : Bool} {p q a b : Int} : gNe [.lst s [.int p, .int q], .lst t [.int a, .int b]] = .val (.bl (!decide (p = a ∧ q = b))) := by
  rw [gNe_pl (by simp [D.pl, pls]) (by simp [D.pl, pls]) (by simp [D.dp, dps]) (by simp [D.dp, dps])]
  simp [D.fz, fzs]
theorem gEq_rec {x0 x1 x2 x3 y0 y1 y2 y3 a b c d z o : Rat} : gEq [rct x0 x1 x2 x3 y0 y1 y2 y3, rc a b c d z o] = .val (.bl (decide ((((x0 + x1 = a ∧ x2 + x3 = b) ∧ y0 + y2 = c ∧ y1 + y3 = d) ∧ x2 + x3 + y2 + y3 = z ∧ x1 + x3 + y1 + y3 = o)))) := by
  unfold rct rc
  rw [gEq_pl (by simp [D.pl, pls, qd_pl]) (by simp [D.pl, pls, qd_pl]) (by simp [D.dp, dps, qd_dp]) (by simp [D.dp, dps, qd_dp])]
  simp [D.fz, fzs, fz_qd, qd_inj]
theorem l_low_self {r : Rat} (h : Sz r) : F_l_low [.int r.num, .int (r.den : Int)] = .val (qd r) := by
  rw [l_low_val r.num r.den r.den_nz (Nat.lt_of_lt_of_le h.den (by decide +kernel)), Rat.num_divInt_den]
def in01 (r : Rat) : Prop := 0 ≤ r ∧ r ≤ 1
noncomputable def areB : Sv := sIf (eOr (eA gLt (lC (eA gIx (lC (eV 3) (lC (eC (.int 1)) lN))) (lC (eC (.int 1)) lN))) (eOr (eA gNe (lC (eV 3) (lC (eF F_l_low (lC (eA gIx (lC (eV 3) (lC (eC (.int 0)) lN))) (lC (eA gIx (lC (eV 3) (lC (eC (.int 1)) lN))) lN))) lN))) (eOr (eA gLt (lC (eA gIx (lC (eV 3) (lC (eC (.int 0)) lN))) (lC (eC (.int 0)) lN))) (eF F_l_less (lC (eA gTup (lC (eC (.int 1)) (lC (eC (.int 1)) lN))) (lC (eV 3) lN))))))
    (sRet (mE [] (eC (.bl false))))
    sNx
noncomputable def areL : Sv := sFor [1, 1] (lC (eA gAdd (lC (eA gIx (lC (eV 1) (lC (eC (.int 0)) lN))) (lC (eA gIx (lC (eV 1) (lC (eC (.int 1)) lN))) lN))) lN) giSeq (.nm 3) areB
theorem are_step {r : Rat} (h : Sz r) (ρ : Env) (hρ : ρ[3]? = some (some (qd r))) :
   areB ρ = if r < 0 ∨ 1 < r then .ret (.bl false) else .nx ρ := by
  have p := r.den_pos
  have hp : ¬ ((r.den : Int) < 1) := by omega
  have l := l_low_self h
  have q := l_less_val (a := 1) (b := r) ⟨by decide +kernel, by decide +kernel⟩ h
  unfold areB
  by_cases h1 : r < 0 <;> by_cases h2 : 1 < r <;> simp [h2] at q <;> simp [mMeth, gAppend, keysOf, getP, pathL, putP, eLc2, lcL2, sFor, forL, giSeq, giRng1, giRng2, giEnum, seqOf, eLc, lcL, wipeE, cYes, gLen, gAll, blsOf, sRaise, fz_qd, cln_qd, qd0, qd1, gNe_str, gEq_str, gIsN_non, gIsN_tup, gIsN_lst, gNotN_non, gNotN_tup, gNotN_lst, runF, sSeq, sIf, sNx, sPar, sSet, sAsg, sRet, sDrop, eA, eF, eC, eV, eOr, eAnd, eNot, eIf, lC, lN, mE, mV, mC, mN, mTup, mLst, Tg.put, tgPuts, D.fz, fzs, D.clean, cleans, frz, fzAt, le_size, lt_size, gLt_val, gGt_val, gLe_val, gGe_val, gSub_val, gNe_int, gEq_int, gEq_qd, gNe_qd, gAdd, gNeg, gGcd, gTup, gLst, gIx_tup, gIx_lst, gIx_scr, gIx_q0, gIx_q1, num_neg, num_zero, gNe_bl, gEq_bl, gIsN_qd, gNotN_qd, gInt, gAbs, atI, ixN, hρ, hp, l, q, h1, h2]
theorem are_loop {A B : Option D} {x2 : Option D} : ∀ (rs : List Rat) (y : Option D), (∀ r ∈ rs, Sz r) → 
   ((∀ r ∈ rs, in01 r) → ∃ y', forL (Tg.put (.nm 3)) areB (rs.map qd) [A, B, x2, y] = .nx [A, B, x2, y']) ∧ (¬ (∀ r ∈ rs, in01 r) → forL (Tg.put (.nm 3)) areB (rs.map qd) [A, B, x2, y] = .ret (.bl false))
  | [], y, _ => ⟨fun _ => ⟨y, rfl⟩, fun h => absurd (fun r hr => nomatch hr) h⟩
  | r :: rs, y, hs => by
    have st := are_step (hs r List.mem_cons_self) [A, B, x2, some (qd r)] rfl
    obtain ⟨i1, i2⟩ := are_loop (A := A) (B := B) (x2 := x2) rs (some (qd r)) fun q hq => hs q (List.mem_cons_of_mem _ hq)
    have put : Tg.put (.nm 3) (qd r) [A, B, x2, y] = some [A, B, x2, some (qd r)] := by simp [Tg.put]
    by_cases hr : in01 r
    · have hn : ¬ (r < 0 ∨ 1 < r) := by unfold in01 at hr; grind
      rw [if_neg hn] at st
      constructor
      · intro h
        obtain ⟨y', e⟩ := i1 fun q hq => h q (List.mem_cons_of_mem _ hq)
        refine ⟨y', ?_⟩
        rw [List.map_cons, forL]
        simp only [put, st]
        exact e
      · intro h
        rw [List.map_cons, forL]
        simp only [put, st]
        exact i2 fun z => h fun q hq => by
          rcases List.mem_cons.mp hq with rfl | hq
          · exact hr
          · exact z q hq
    · have hn : r < 0 ∨ 1 < r := by unfold in01 at hr; grind
      rw [if_pos hn] at st
      constructor
      · intro h; exact absurd (h r List.mem_cons_self) hr
      · intro h
        rw [List.map_cons, forL]
        simp only [put, st]
def okT (a b c d z o x0 x1 x2 x3 y0 y1 y2 y3 : Rat) : Prop := (∀ r ∈ [x0, x1, x2, x3, y0, y1, y2, y3], in01 r) ∧ (((x0 + x1 = a ∧ x2 + x3 = b) ∧ y0 + y2 = c ∧ y1 + y3 = d) ∧ x2 + x3 + y2 + y3 = z ∧ x1 + x3 + y1 + y3 = o)
theorem Ts.szs {N : Nat} {x0 x1 x2 x3 y0 y1 y2 y3 : Rat} (T : Ts N x0 x1 x2 x3 y0 y1 y2 y3) : ∀ r ∈ [x0, x1, x2, x3, y0, y1, y2, y3], Sz r := by
  intro r hr
  simp only [List.mem_cons, List.not_mem_nil, or_false] at hr
  rcases hr with rfl | rfl | rfl | rfl | rfl | rfl | rfl | rfl
  · exact T.x0.z T.n0 (by decide) T.n1
  · exact T.x1.z T.n0 (by decide) T.n1
  · exact T.x2.z T.n0 (by decide) T.n1
  · exact T.x3.z T.n0 (by decide) T.n1
  · exact T.y0.z T.n0 (by decide) T.n1
  · exact T.y1.z T.n0 (by decide) T.n1
  · exact T.y2.z T.n0 (by decide) T.n1
  · exact T.y3.z T.n0 (by decide) T.n1
theorem l_are_eq : G_l_are_types = sSeq (sIf (eOr (eA gNe (lC (eA gLen (lC (eV 1) lN)) (lC (eC (.int 2)) lN))) (eA gNe (lC (eLc (lC (eV 1) lN) giSeq (.nm 2) [2] cYes (eA gLen (lC (eV 2) lN))) (lC (eA gLst (lC (eC (.int 4)) (lC (eC (.int 4)) lN))) lN))))
   (sRet (mE [] (eC (.bl false))))
   sNx) (sSeq areL (sRet (mE [1, 0] (eA gEq (lC (eF F_l_record (lC (eV 1) lN)) (lC (eV 0) lN)))))) := rfl
theorem areL_val {N : Nat} {x0 x1 x2 x3 y0 y1 y2 y3 : Rat} (A : D) (T : Ts N x0 x1 x2 x3 y0 y1 y2 y3) :
    ((∀ r ∈ [x0, x1, x2, x3, y0, y1, y2, y3], in01 r) → ∃ y', areL [some A, some (tl x0 x1 x2 x3 y0 y1 y2 y3), none, none] = .nx [some A, some (tl x0 x1 x2 x3 y0 y1 y2 y3), none, y']) ∧
    (¬ (∀ r ∈ [x0, x1, x2, x3, y0, y1, y2, y3], in01 r) → areL [some A, some (tl x0 x1 x2 x3 y0 y1 y2 y3), none, none] = .ret (.bl false)) := by
  have L := are_loop (A := some A) (B := some (tl x0 x1 x2 x3 y0 y1 y2 y3)) (x2 := none) [x0, x1, x2, x3, y0, y1, y2, y3] none T.szs
  have e : areL [some A, some (tl x0 x1 x2 x3 y0 y1 y2 y3), none, none] = forL (Tg.put (.nm 3)) areB ([x0, x1, x2, x3, y0, y1, y2, y3].map qd) [some A, some (tl x0 x1 x2 x3 y0 y1 y2 y3), none, none] := by
    unfold areL tl sFor
    simp [eA, lC, lN, eV, eC, D.fz, fzs, fz_qd, gIx_lst, atI, ixN, gAdd, le_size, giSeq, seqOf, D.clean, cleans, cln_qd]
  rw [e]
  exact L
open Classical in
theorem l_are_val {N : Nat} {a b c d z o x0 x1 x2 x3 y0 y1 y2 y3 : Rat} (T : Ts N x0 x1 x2 x3 y0 y1 y2 y3) : F_l_are_types [rc a b c d z o, tl x0 x1 x2 x3 y0 y1 y2 y3] = .val (.bl (decide (okT a b c d z o x0 x1 x2 x3 y0 y1 y2 y3))) := by
  have e := l_record_val T
  have q := gEq_rec (x0 := x0) (x1 := x1) (x2 := x2) (x3 := x3) (y0 := y0) (y1 := y1) (y2 := y2) (y3 := y3) (a := a) (b := b) (c := c) (d := d) (z := z) (o := o)
  obtain ⟨i1, i2⟩ := areL_val (rc a b c d z o) T
  unfold F_l_are_types
  rw [l_are_eq]
  by_cases h : ∀ r ∈ [x0, x1, x2, x3, y0, y1, y2, y3], in01 r
  · obtain ⟨y', i⟩ := i1 h
    have hh : okT a b c d z o x0 x1 x2 x3 y0 y1 y2 y3 ↔ (((x0 + x1 = a ∧ x2 + x3 = b) ∧ y0 + y2 = c ∧ y1 + y3 = d) ∧ x2 + x3 + y2 + y3 = z ∧ x1 + x3 + y1 + y3 = o) := ⟨fun z => z.2, fun z => ⟨h, z⟩⟩
    have hd : decide (okT a b c d z o x0 x1 x2 x3 y0 y1 y2 y3) = decide (((x0 + x1 = a ∧ x2 + x3 = b) ∧ y0 + y2 = c ∧ y1 + y3 = d) ∧ x2 + x3 + y2 + y3 = z ∧ x1 + x3 + y1 + y3 = o) := decide_eq_decide.mpr hh
    rw [hd]
    unfold tl at *
    simp [mMeth, gAppend, keysOf, getP, pathL, putP, eLc2, lcL2, sFor, forL, giSeq, giRng1, giRng2, giEnum, seqOf, eLc, lcL, wipeE, cYes, gLen, gAll, blsOf, sRaise, fz_qd, cln_qd, qd0, qd1, gNe_str, gEq_str, gIsN_non, gIsN_tup, gIsN_lst, gNotN_non, gNotN_tup, gNotN_lst, runF, sSeq, sIf, sNx, sPar, sSet, sAsg, sRet, sDrop, eA, eF, eC, eV, eOr, eAnd, eNot, eIf, lC, lN, mE, mV, mC, mN, mTup, mLst, Tg.put, tgPuts, D.fz, fzs, D.clean, cleans, frz, fzAt, le_size, lt_size, gLt_val, gGt_val, gLe_val, gGe_val, gSub_val, gNe_int, gEq_int, gEq_qd, gNe_qd, gAdd, gNeg, gGcd, gTup, gLst, gIx_tup, gIx_lst, gIx_scr, gIx_q0, gIx_q1, num_neg, num_zero, gNe_bl, gEq_bl, gIsN_qd, gNotN_qd, gInt, gAbs, atI, ixN, gNe_ii, rc_fz, rc_cln, i, e]
    rw [q]
    simp
  · have hh : ¬ okT a b c d z o x0 x1 x2 x3 y0 y1 y2 y3 := fun z => h z.1
    rw [decide_eq_false hh]
    have i := i2 h
    unfold tl at *
    simp [mMeth, gAppend, keysOf, getP, pathL, putP, eLc2, lcL2, sFor, forL, giSeq, giRng1, giRng2, giEnum, seqOf, eLc, lcL, wipeE, cYes, gLen, gAll, blsOf, sRaise, fz_qd, cln_qd, qd0, qd1, gNe_str, gEq_str, gIsN_non, gIsN_tup, gIsN_lst, gNotN_non, gNotN_tup, gNotN_lst, runF, sSeq, sIf, sNx, sPar, sSet, sAsg, sRet, sDrop, eA, eF, eC, eV, eOr, eAnd, eNot, eIf, lC, lN, mE, mV, mC, mN, mTup, mLst, Tg.put, tgPuts, D.fz, fzs, D.clean, cleans, frz, fzAt, le_size, lt_size, gLt_val, gGt_val, gLe_val, gGe_val, gSub_val, gNe_int, gEq_int, gEq_qd, gNe_qd, gAdd, gNeg, gGcd, gTup, gLst, gIx_tup, gIx_lst, gIx_scr, gIx_q0, gIx_q1, num_neg, num_zero, gNe_bl, gEq_bl, gIsN_qd, gNotN_qd, gInt, gAbs, atI, ixN, gNe_ii, rc_fz, rc_cln, i]
end DL

set_option Elab.async false
set_option linter.all false
set_option maxRecDepth 100000
set_option maxHeartbeats 2000000
namespace DL
open PySem PySem.Spec L2
open PyProof.Rows hiding St

theorem gEq_4 {n : Nat} (h : n = 4) : gEq [.int (n : Int), .int 4] = .val (.bl true) := by subst h; rw [gEq_int]; simp
open Classical in
theorem chance_in {r : Rat} (h : Sz r) : F_is_chance [qd r] = .val (.bl (decide (in01 r))) := by
  rw [is_chance_val h]
  exact congrArg (fun b => ER.val (D.bl b)) (decide_eq_decide.mpr Iff.rfl)
open Classical in
theorem are_val {N : Nat} {a b c d z o x0 x1 x2 x3 y0 y1 y2 y3 : Rat} (T : Ts N x0 x1 x2 x3 y0 y1 y2 y3) (hc : F_check_record [rc a b c d z o] = .val .non) : F_are_types [rc a b c d z o, tl x0 x1 x2 x3 y0 y1 y2 y3] = .val (.bl (decide (okT a b c d z o x0 x1 x2 x3 y0 y1 y2 y3))) := by
  have X0 := T.x0.z T.n0 (by decide) T.n1
  have X1 := T.x1.z T.n0 (by decide) T.n1
  have X2 := T.x2.z T.n0 (by decide) T.n1
  have X3 := T.x3.z T.n0 (by decide) T.n1
  have Y0 := T.y0.z T.n0 (by decide) T.n1
  have Y1 := T.y1.z T.n0 (by decide) T.n1
  have Y2 := T.y2.z T.n0 (by decide) T.n1
  have Y3 := T.y3.z T.n0 (by decide) T.n1
  have c0 : F_is_chance [qd x0] = .val (.bl (decide (in01 x0))) := chance_in X0
  have c1 : F_is_chance [qd x1] = .val (.bl (decide (in01 x1))) := chance_in X1
  have c2 : F_is_chance [qd x2] = .val (.bl (decide (in01 x2))) := chance_in X2
  have c3 : F_is_chance [qd x3] = .val (.bl (decide (in01 x3))) := chance_in X3
  have c4 : F_is_chance [qd y0] = .val (.bl (decide (in01 y0))) := chance_in Y0
  have c5 : F_is_chance [qd y1] = .val (.bl (decide (in01 y1))) := chance_in Y1
  have c6 : F_is_chance [qd y2] = .val (.bl (decide (in01 y2))) := chance_in Y2
  have c7 : F_is_chance [qd y3] = .val (.bl (decide (in01 y3))) := chance_in Y3
  have g4 : gAll [.lst true [.bl true, .bl true]] = .val (.bl true) := rfl
  have g8 : gAll [.lst true [.bl (decide (in01 x0)), .bl (decide (in01 x1)), .bl (decide (in01 x2)), .bl (decide (in01 x3)), .bl (decide (in01 y0)), .bl (decide (in01 y1)), .bl (decide (in01 y2)), .bl (decide (in01 y3))]] = .val (.bl (decide (∀ r ∈ [x0, x1, x2, x3, y0, y1, y2, y3], in01 r))) := by
    simp [gAll, blsOf]
  have p1 := plus_val X0 X1
  have p2 := plus_val X2 X3
  have p3 := plus_val Y0 Y2
  have p4 := plus_val Y1 Y3
  have q1 := total4_val T.n0 T.n1 T.x2 T.x3 T.y2 T.y3
  have q2 := total4_val T.n0 T.n1 T.x1 T.x3 T.y1 T.y3
  unfold rc at hc
  unfold F_are_types G_are_types tl rc
  by_cases h : ∀ r ∈ [x0, x1, x2, x3, y0, y1, y2, y3], in01 r
  · have hh : okT a b c d z o x0 x1 x2 x3 y0 y1 y2 y3 ↔ (((x0 + x1 = a ∧ x2 + x3 = b) ∧ y0 + y2 = c ∧ y1 + y3 = d) ∧ x2 + x3 + y2 + y3 = z ∧ x1 + x3 + y1 + y3 = o) := ⟨fun z => z.2, fun z => ⟨h, z⟩⟩
    have hd : decide (okT a b c d z o x0 x1 x2 x3 y0 y1 y2 y3) = decide (((x0 + x1 = a ∧ x2 + x3 = b) ∧ y0 + y2 = c ∧ y1 + y3 = d) ∧ x2 + x3 + y2 + y3 = z ∧ x1 + x3 + y1 + y3 = o) := decide_eq_decide.mpr hh
    rw [hd]
    rw [decide_eq_true h] at g8
    by_cases e1 : x0 + x1 = a ∧ x2 + x3 = b
    · by_cases e2 : y0 + y2 = c ∧ y1 + y3 = d
      · obtain ⟨rfl, rfl⟩ := e1
        obtain ⟨rfl, rfl⟩ := e2
        by_cases e3 : x2 + x3 + y2 + y3 = z
        · simp [mMeth, gAppend, keysOf, getP, pathL, putP, eLc2, lcL2, sFor, forL, giSeq, giRng1, giRng2, giEnum, seqOf, eLc, lcL, wipeE, cYes, gLen, sRaise, fz_qd, cln_qd, qd0, qd1, gNe_str, gEq_str, gIsN_non, gIsN_tup, gIsN_lst, gNotN_non, gNotN_tup, gNotN_lst, runF, sSeq, sIf, sNx, sPar, sSet, sAsg, sRet, sDrop, eA, eF, eC, eV, eOr, eAnd, eNot, eIf, lC, lN, mE, mV, mC, mN, mTup, mLst, Tg.put, tgPuts, D.fz, fzs, D.clean, cleans, frz, fzAt, le_size, lt_size, gLt_val, gGt_val, gLe_val, gGe_val, gSub_val, gNe_int, gEq_int, gEq_qd, gNe_qd, gAdd, gNeg, gGcd, gTup, gLst, gIx_tup, gIx_lst, gIx_scr, gIx_q0, gIx_q1, num_neg, num_zero, gNe_bl, gEq_bl, gIsN_qd, gNotN_qd, gInt, gAbs, atI, ixN, hc, c0, c1, c2, c3, c4, c5, c6, c7, g4, g8, p1, p2, p3, p4, q1, q2, gNe_qq, e3]
        · simp [mMeth, gAppend, keysOf, getP, pathL, putP, eLc2, lcL2, sFor, forL, giSeq, giRng1, giRng2, giEnum, seqOf, eLc, lcL, wipeE, cYes, gLen, sRaise, fz_qd, cln_qd, qd0, qd1, gNe_str, gEq_str, gIsN_non, gIsN_tup, gIsN_lst, gNotN_non, gNotN_tup, gNotN_lst, runF, sSeq, sIf, sNx, sPar, sSet, sAsg, sRet, sDrop, eA, eF, eC, eV, eOr, eAnd, eNot, eIf, lC, lN, mE, mV, mC, mN, mTup, mLst, Tg.put, tgPuts, D.fz, fzs, D.clean, cleans, frz, fzAt, le_size, lt_size, gLt_val, gGt_val, gLe_val, gGe_val, gSub_val, gNe_int, gEq_int, gEq_qd, gNe_qd, gAdd, gNeg, gGcd, gTup, gLst, gIx_tup, gIx_lst, gIx_scr, gIx_q0, gIx_q1, num_neg, num_zero, gNe_bl, gEq_bl, gIsN_qd, gNotN_qd, gInt, gAbs, atI, ixN, hc, c0, c1, c2, c3, c4, c5, c6, c7, g4, g8, p1, p2, p3, p4, q1, q2, gNe_qq, e3]
      · obtain ⟨rfl, rfl⟩ := e1
        simp [mMeth, gAppend, keysOf, getP, pathL, putP, eLc2, lcL2, sFor, forL, giSeq, giRng1, giRng2, giEnum, seqOf, eLc, lcL, wipeE, cYes, gLen, sRaise, fz_qd, cln_qd, qd0, qd1, gNe_str, gEq_str, gIsN_non, gIsN_tup, gIsN_lst, gNotN_non, gNotN_tup, gNotN_lst, runF, sSeq, sIf, sNx, sPar, sSet, sAsg, sRet, sDrop, eA, eF, eC, eV, eOr, eAnd, eNot, eIf, lC, lN, mE, mV, mC, mN, mTup, mLst, Tg.put, tgPuts, D.fz, fzs, D.clean, cleans, frz, fzAt, le_size, lt_size, gLt_val, gGt_val, gLe_val, gGe_val, gSub_val, gNe_int, gEq_int, gEq_qd, gNe_qd, gAdd, gNeg, gGcd, gTup, gLst, gIx_tup, gIx_lst, gIx_scr, gIx_q0, gIx_q1, num_neg, num_zero, gNe_bl, gEq_bl, gIsN_qd, gNotN_qd, gInt, gAbs, atI, ixN, hc, c0, c1, c2, c3, c4, c5, c6, c7, g4, g8, p1, p2, p3, p4, q1, q2, gNe_qq, e2]
    · simp [mMeth, gAppend, keysOf, getP, pathL, putP, eLc2, lcL2, sFor, forL, giSeq, giRng1, giRng2, giEnum, seqOf, eLc, lcL, wipeE, cYes, gLen, sRaise, fz_qd, cln_qd, qd0, qd1, gNe_str, gEq_str, gIsN_non, gIsN_tup, gIsN_lst, gNotN_non, gNotN_tup, gNotN_lst, runF, sSeq, sIf, sNx, sPar, sSet, sAsg, sRet, sDrop, eA, eF, eC, eV, eOr, eAnd, eNot, eIf, lC, lN, mE, mV, mC, mN, mTup, mLst, Tg.put, tgPuts, D.fz, fzs, D.clean, cleans, frz, fzAt, le_size, lt_size, gLt_val, gGt_val, gLe_val, gGe_val, gSub_val, gNe_int, gEq_int, gEq_qd, gNe_qd, gAdd, gNeg, gGcd, gTup, gLst, gIx_tup, gIx_lst, gIx_scr, gIx_q0, gIx_q1, num_neg, num_zero, gNe_bl, gEq_bl, gIsN_qd, gNotN_qd, gInt, gAbs, atI, ixN, hc, c0, c1, c2, c3, c4, c5, c6, c7, g4, g8, p1, p2, p3, p4, q1, q2, gNe_qq, e1]
  · have hh : ¬ okT a b c d z o x0 x1 x2 x3 y0 y1 y2 y3 := fun z => h z.1
    rw [decide_eq_false hh]
    rw [decide_eq_false h] at g8
    simp [mMeth, gAppend, keysOf, getP, pathL, putP, eLc2, lcL2, sFor, forL, giSeq, giRng1, giRng2, giEnum, seqOf, eLc, lcL, wipeE, cYes, gLen, sRaise, fz_qd, cln_qd, qd0, qd1, gNe_str, gEq_str, gIsN_non, gIsN_tup, gIsN_lst, gNotN_non, gNotN_tup, gNotN_lst, runF, sSeq, sIf, sNx, sPar, sSet, sAsg, sRet, sDrop, eA, eF, eC, eV, eOr, eAnd, eNot, eIf, lC, lN, mE, mV, mC, mN, mTup, mLst, Tg.put, tgPuts, D.fz, fzs, D.clean, cleans, frz, fzAt, le_size, lt_size, gLt_val, gGt_val, gLe_val, gGe_val, gSub_val, gNe_int, gEq_int, gEq_qd, gNe_qd, gAdd, gNeg, gGcd, gTup, gLst, gIx_tup, gIx_lst, gIx_scr, gIx_q0, gIx_q1, num_neg, num_zero, gNe_bl, gEq_bl, gIsN_qd, gNotN_qd, gInt, gAbs, atI, ixN, hc, c0, c1, c2, c3, c4, c5, c6, c7, g4, g8]

end DL

set_option Elab.async false
set_option linter.all false
set_option maxRecDepth 100000
set_option maxHeartbeats 2000000
namespace DL
open PySem PySem.Spec L2
open PyProof.Rows hiding St
def lowB : Sv := sIf (eF F_l_less (lC (eV 6) (lC (eV 8) lN))) (sSet 6 (mV 8)) sNx
def highB : Sv := sIf (eF F_l_less (lC (eV 8) (lC (eV 7) lN))) (sSet 7 (mV 8)) sNx
theorem low_loop {e0 e1 e2 e3 e4 e5 e7 : Option D} : ∀ (rs : List Rat) (cur : Rat) (e8 : Option D), Sz cur → (∀ r ∈ rs, Sz r) →
    ∃ lo e8', forL (Tg.put (.nm 8)) lowB (rs.map qd) [e0, e1, e2, e3, e4, e5, some (qd cur), e7, e8] = .nx [e0, e1, e2, e3, e4, e5, some (qd lo), e7, e8'] ∧ (lo = cur ∨ lo ∈ rs) ∧ cur ≤ lo ∧ ∀ r ∈ rs, r ≤ lo
  | [], cur, e8, _, _ => ⟨cur, e8, rfl, .inl rfl, Rat.le_refl, fun r hr => nomatch hr⟩
  | r :: rs, cur, e8, hc, hs => by
    have hr := hs r List.mem_cons_self
    have l := l_less_val hc hr
    by_cases h : cur < r
    · obtain ⟨lo, e8', e, m, g1, g2⟩ := low_loop (e0 := e0) (e1 := e1) (e2 := e2) (e3 := e3) (e4 := e4) (e5 := e5) (e7 := e7) rs r none hr fun q hq => hs q (List.mem_cons_of_mem _ hq)
      refine ⟨lo, e8', ?_, ?_, by grind, ?_⟩
      · rw [List.map_cons, forL, ← e]
        simp [lowB, sIf, eF, eA, lC, lN, eV, fz_qd, fzs, l, h, sSet, sAsg, mV, Tg.put]
      · rcases m with rfl | m
        · exact .inr List.mem_cons_self
        · exact .inr (List.mem_cons_of_mem _ m)
      · intro q hq
        rcases List.mem_cons.mp hq with rfl | hq
        · exact g1
        · exact g2 q hq
    · obtain ⟨lo, e8', e, m, g1, g2⟩ := low_loop (e0 := e0) (e1 := e1) (e2 := e2) (e3 := e3) (e4 := e4) (e5 := e5) (e7 := e7) rs cur (some (qd r)) hc fun q hq => hs q (List.mem_cons_of_mem _ hq)
      refine ⟨lo, e8', ?_, ?_, g1, ?_⟩
      · rw [List.map_cons, forL, ← e]
        simp [lowB, sIf, sNx, eF, eA, lC, lN, eV, fz_qd, fzs, l, h, sSet, sAsg, mV, Tg.put]
      · rcases m with rfl | m
        · exact .inl rfl
        · exact .inr (List.mem_cons_of_mem _ m)
      · intro q hq
        rcases List.mem_cons.mp hq with rfl | hq
        · grind
        · exact g2 q hq
theorem high_loop {e0 e1 e2 e3 e4 e5 e6 : Option D} : ∀ (rs : List Rat) (cur : Rat) (e8 : Option D), Sz cur → (∀ r ∈ rs, Sz r) →
    ∃ lo e8', forL (Tg.put (.nm 8)) highB (rs.map qd) [e0, e1, e2, e3, e4, e5, e6, some (qd cur), e8] = .nx [e0, e1, e2, e3, e4, e5, e6, some (qd lo), e8'] ∧ (lo = cur ∨ lo ∈ rs) ∧ lo ≤ cur ∧ ∀ r ∈ rs, lo ≤ r
  | [], cur, e8, _, _ => ⟨cur, e8, rfl, .inl rfl, Rat.le_refl, fun r hr => nomatch hr⟩
  | r :: rs, cur, e8, hc, hs => by
    have hr := hs r List.mem_cons_self
    have l := l_less_val hr hc
    by_cases h : r < cur
    · obtain ⟨lo, e8', e, m, g1, g2⟩ := high_loop (e0 := e0) (e1 := e1) (e2 := e2) (e3 := e3) (e4 := e4) (e5 := e5) (e6 := e6) rs r none hr fun q hq => hs q (List.mem_cons_of_mem _ hq)
      refine ⟨lo, e8', ?_, ?_, by grind, ?_⟩
      · rw [List.map_cons, forL, ← e]
        simp [highB, sIf, eF, eA, lC, lN, eV, fz_qd, fzs, l, h, sSet, sAsg, mV, Tg.put]
      · rcases m with rfl | m
        · exact .inr List.mem_cons_self
        · exact .inr (List.mem_cons_of_mem _ m)
      · intro q hq
        rcases List.mem_cons.mp hq with rfl | hq
        · exact g1
        · exact g2 q hq
    · obtain ⟨lo, e8', e, m, g1, g2⟩ := high_loop (e0 := e0) (e1 := e1) (e2 := e2) (e3 := e3) (e4 := e4) (e5 := e5) (e6 := e6) rs cur (some (qd r)) hc fun q hq => hs q (List.mem_cons_of_mem _ hq)
      refine ⟨lo, e8', ?_, ?_, g1, ?_⟩
      · rw [List.map_cons, forL, ← e]
        simp [highB, sIf, sNx, eF, eA, lC, lN, eV, fz_qd, fzs, l, h, sSet, sAsg, mV, Tg.put]
      · rcases m with rfl | m
        · exact .inl rfl
        · exact .inr (List.mem_cons_of_mem _ m)
      · intro q hq
        rcases List.mem_cons.mp hq with rfl | hq
        · grind
        · exact g2 q hq
theorem lowB_eq : B_l_bounds_1 = lowB := rfl
theorem highB_eq : B_l_bounds_2 = highB := rfl
theorem l_bounds_val {a b c d z o : Rat} {N : Nat} (R : Rs N a b c d z o) : ∃ lo hi : Rat, F_l_bounds [rc a b c d z o] = .val (.tup [qd lo, qd hi]) ∧
    (lo = 0 ∨ lo = o - z ∨ lo = b + d - z ∨ lo = o - (b + d)) ∧ (0 ≤ lo ∧ o - z ≤ lo ∧ b + d - z ≤ lo ∧ o - (b + d) ≤ lo) ∧
    (hi = o ∨ hi = 1 - z ∨ hi = d + a ∨ hi = o - z + (c + b)) ∧ (hi ≤ o ∧ hi ≤ 1 - z ∧ hi ≤ d + a ∧ hi ≤ o - z + (c + b)) := by
  have A := R.a.z R.n0 (by decide) R.n1
  have B := R.b.z R.n0 (by decide) R.n1
  have C := R.c.z R.n0 (by decide) R.n1
  have DD := R.d.z R.n0 (by decide) R.n1
  have Z := R.z.z R.n0 (by decide) R.n1
  have O := R.o.z R.n0 (by decide) R.n1
  have Z0 : Sz 0 := (Sm.zero (N := N) (M := 100)).z R.n0 (by decide) R.n1
  have I1 : Sz 1 := (Sm.one (N := N) (M := 100) (by decide)).z R.n0 (by decide) R.n1
  have L1 := (R.o.sub R.z).z R.n0 (by decide) R.n1
  have BD := (R.b.add R.d).z R.n0 (by decide) R.n1
  have L2 := ((R.b.add R.d).sub R.z).z R.n0 (by decide) R.n1
  have L3 := (R.o.sub (R.b.add R.d)).z R.n0 (by decide) R.n1
  have H1 := ((Sm.one (N := N) (M := 100) (by decide)).sub R.z).z R.n0 (by decide) R.n1
  have H2 := (R.d.add R.a).z R.n0 (by decide) R.n1
  have H3 := ((R.o.sub R.z).add (R.c.add R.b)).z R.n0 (by decide) R.n1
  have m1 := l_minus_val O Z
  have p1 := l_plus_val B DD
  have m2 := l_minus_val BD Z
  have m3 := l_minus_val O BD
  have m4 := l_minus_val I1 Z
  have p2 := l_plus_val DD A
  have p3 := l_plus_val C B
  have p4 := l_plus_val L1 ((R.c.add R.b).z R.n0 (by decide) R.n1)
  obtain ⟨lo, x8, e1, k1, k2, k3⟩ := low_loop (e0 := none) (e1 := some (.lst false [.lst false [qd a, qd b], .lst false [qd c, qd d]])) (e2 := some (qd z)) (e3 := some (qd o)) (e4 := some (.lst false [qd 0, qd (o - z), qd (b + d - z), qd (o - (b + d))])) (e5 := some (.lst true [qd o, qd (1 - z), qd (d + a), qd (o - z + (c + b))])) (e7 := some (qd o)) [0, o - z, b + d - z, o - (b + d)] 0 none Z0 (by
    intro r hr
    simp only [List.mem_cons, List.not_mem_nil, or_false] at hr
    rcases hr with rfl | rfl | rfl | rfl <;> assumption)
  obtain ⟨hi, y8, e2, j1, j2, j3⟩ := high_loop (e0 := none) (e1 := some (.lst false [.lst false [qd a, qd b], .lst false [qd c, qd d]])) (e2 := some (qd z)) (e3 := some (qd o)) (e4 := some (.lst false [qd 0, qd (o - z), qd (b + d - z), qd (o - (b + d))])) (e5 := some (.lst false [qd o, qd (1 - z), qd (d + a), qd (o - z + (c + b))])) (e6 := some (qd lo)) [o, 1 - z, d + a, o - z + (c + b)] o x8 O (by
    intro r hr
    simp only [List.mem_cons, List.not_mem_nil, or_false] at hr
    rcases hr with rfl | rfl | rfl | rfl <;> assumption)
  have put8 : Tg.put (.nm 8) = fun x y => some (List.set y 8 (some x)) := by funext x y; simp [Tg.put]
  simp only [List.map_cons, List.map_nil, put8] at e1 e2
  refine ⟨lo, hi, ?_, ?_, ?_, ?_, ?_⟩
  · unfold F_l_bounds G_l_bounds rc
    rw [lowB_eq, highB_eq]
    simp [mMeth, gAppend, keysOf, getP, pathL, putP, eLc2, lcL2, sFor, giSeq, giRng1, giRng2, giEnum, seqOf, eLc, lcL, wipeE, cYes, gLen, gAll, blsOf, sRaise, fz_qd, cln_qd, qd0, qd1, gNe_str, gEq_str, gIsN_non, gIsN_tup, gIsN_lst, gNotN_non, gNotN_tup, gNotN_lst, runF, sSeq, sIf, sNx, sPar, sSet, sAsg, sRet, sDrop, eA, eF, eC, eV, eOr, eAnd, eNot, eIf, lC, lN, mE, mV, mC, mN, mTup, mLst, Tg.put, tgPuts, D.fz, fzs, D.clean, cleans, frz, fzAt, le_size, lt_size, gLt_val, gGt_val, gLe_val, gGe_val, gSub_val, gNe_int, gEq_int, gEq_qd, gNe_qd, gAdd, gNeg, gGcd, gTup, gLst, gIx_tup, gIx_lst, gIx_scr, gIx_q0, gIx_q1, num_neg, num_zero, gNe_bl, gEq_bl, gIsN_qd, gNotN_qd, gInt, gAbs, atI, ixN, m1, p1, m2, m3, m4, p2, p3, p4, e1, e2]
  · simp only [List.mem_cons, List.not_mem_nil, or_false] at k1
    grind
  · exact ⟨k2, k3 _ (by simp), k3 _ (by simp), k3 _ (by simp)⟩
  · simp only [List.mem_cons, List.not_mem_nil, or_false] at j1
    grind
  · exact ⟨j2, j3 _ (by simp), j3 _ (by simp), j3 _ (by simp)⟩
/-- what `both` gives is what the bounds are -/
theorem both_bounds {a b c d z o lo hi : Rat} (h1 : a + b + c + d = 1)
    (k1 : lo = 0 ∨ lo = o - z ∨ lo = b + d - z ∨ lo = o - (b + d)) (k2 : 0 ≤ lo ∧ o - z ≤ lo ∧ b + d - z ≤ lo ∧ o - (b + d) ≤ lo)
    (j1 : hi = o ∨ hi = 1 - z ∨ hi = d + a ∨ hi = o - z + (c + b)) (j2 : hi ≤ o ∧ hi ≤ 1 - z ∧ hi ≤ d + a ∧ hi ≤ o - z + (c + b)) :
    hz0 b d o + ho0 b d z = lo ∧ hz1 a d o + ho1 b c d z = hi := by
  unfold hz0 ho0 hz1 ho1
  constructor
  · split <;> split <;> grind
  · split <;> split <;> grind
end DL

set_option Elab.async false
set_option linter.all false
set_option maxRecDepth 100000
set_option maxHeartbeats 2000000
namespace DL
open PySem PySem.Spec L2
open PyProof.Rows hiding St

def Bd (ds : List Int) : Prop := ∀ d ∈ ds, 0 ≤ d ∧ d < 65536
theorem gAppend_val {ds : List Int} {d : Int} (h : ds.length < sizeLine) : gAppend (.lst true (ds.map D.int)) [.int d] = some (.lst true ((ds ++ [d]).map D.int), .non) := by
  unfold gAppend
  simp [h]
theorem draws_inner (xs : List D) : ∀ (r : Int) (ds : List Int) (e0 e2 e4 e5 : Option D), 0 ≤ r → Bd ds → ds.length + xs.length < sizeLine →
    ∃ r' ds' e4', forL (Tg.put (.nm 4)) B_l_draws_1 xs [e0, some (.lst true (ds.map D.int)), e2, some (.int r), e4, e5] = .nx [e0, some (.lst true (ds'.map D.int)), e2, some (.int r'), e4', e5] ∧ 0 ≤ r' ∧ Bd ds' ∧ ds'.length ≤ ds.length + xs.length := by
  induction xs with
  | nil => intro r ds e0 e2 e4 e5 h0 hb hl; exact ⟨r, ds, e4, rfl, h0, hb, by simp⟩
  | cons x xs ih =>
    intro r ds e0 e2 e4 e5 h0 hb hl
    simp only [List.length_cons] at hl
    by_cases hr : 0 < r
    · have m : gMod [.int r, .int 65536] = .val (.int (r.fmod 65536)) := gMod_val (by decide)
      have dv : gDiv [.int r, .int 65536] = .val (.int (r.fdiv 65536)) := gDiv_val (b := 17) (by decide) (by decide) (by decide) (by decide)
      have ap := gAppend_val (d := r.fmod 65536) (show ds.length < sizeLine by omega)
      have m0 := Int.fmod_nonneg_of_pos r (b := 65536) (by decide)
      have m1 := Int.fmod_lt_of_pos r (b := 65536) (by decide)
      obtain ⟨r', ds', e4', e, g0, gb, gl⟩ := ih (r.fdiv 65536) (ds ++ [r.fmod 65536]) e0 e2 (some x) e5 (by rw [Int.fdiv_eq_ediv_of_nonneg _ (by decide)]; omega) (by
        intro d hd
        rcases List.mem_append.mp hd with hd | hd
        · exact hb d hd
        · simp only [List.mem_singleton] at hd; subst hd; exact ⟨m0, m1⟩) (by simp only [List.length_append, List.length_singleton]; omega)
      refine ⟨r', ds', e4', ?_, g0, gb, by rw [List.length_append, List.length_singleton] at gl; rw [List.length_cons]; omega⟩
      rw [forL, ← e]
      simp only [Tg.put, B_l_draws_1]
      simp [sSeq, sIf, sNx, sDrop, sSet, sAsg, eA, lC, lN, eV, eC, D.fz, gGt_val, hr, mMeth, keysOf, getP, pathL, putP, mC, mE, mN, gInt, m, dv, D.clean, Tg.put, ap, -List.map_append]
    · obtain ⟨r', ds', e4', e, g0, gb, gl⟩ := ih r ds e0 e2 (some x) e5 h0 hb (by omega)
      refine ⟨r', ds', e4', ?_, g0, gb, by simp only [List.length_cons] at *; omega⟩
      rw [forL, ← e]
      simp only [Tg.put, B_l_draws_1]
      simp [sSeq, sIf, sNx, eA, lC, lN, eV, eC, D.fz, gGt_val, hr]
theorem moved_val0 {N : Nat} {x0 x1 x2 x3 y0 y1 y2 y3 t : Rat} (T : Ts N x0 x1 x2 x3 y0 y1 y2 y3) (ht : Sm N 100 t) :
    F_l_moved [tl x0 x1 x2 x3 y0 y1 y2 y3, .int 0, qd t] = .val (.lst true [.lst true [qd (x0 - t), qd (x1 + t), qd (x2 + t), qd (x3 - t)], .lst true [qd y0, qd y1, qd y2, qd y3]]) := by
  have m0 := l_minus_val (T.x0.z T.n0 (by decide) T.n1) (ht.z T.n0 (by decide) T.n1)
  have m1 := l_plus_val (T.x1.z T.n0 (by decide) T.n1) (ht.z T.n0 (by decide) T.n1)
  have m2 := l_plus_val (T.x2.z T.n0 (by decide) T.n1) (ht.z T.n0 (by decide) T.n1)
  have m3 := l_minus_val (T.x3.z T.n0 (by decide) T.n1) (ht.z T.n0 (by decide) T.n1)
  unfold F_l_moved G_l_moved tl
  simp [mMeth, gAppend, keysOf, getP, pathL, putP, eLc2, lcL2, sFor, forL, giSeq, giRng1, giRng2, giEnum, seqOf, eLc, lcL, wipeE, cYes, gLen, gAll, blsOf, sRaise, fz_qd, cln_qd, qd0, qd1, gNe_str, gEq_str, gIsN_non, gIsN_tup, gIsN_lst, gNotN_non, gNotN_tup, gNotN_lst, runF, sSeq, sIf, sNx, sPar, sSet, sAsg, sRet, sDrop, eA, eF, eC, eV, eOr, eAnd, eNot, eIf, lC, lN, mE, mV, mC, mN, mTup, mLst, Tg.put, tgPuts, D.fz, fzs, D.clean, cleans, frz, fzAt, le_size, lt_size, gLt_val, gGt_val, gLe_val, gGe_val, gSub_val, gNe_int, gEq_int, gEq_qd, gNe_qd, gAdd, gNeg, gGcd, gTup, gLst, gIx_tup, gIx_lst, gIx_scr, gIx_q0, gIx_q1, num_neg, num_zero, gNe_bl, gEq_bl, gIsN_qd, gNotN_qd, gInt, gAbs, atI, ixN, gList, m0, m1, m2, m3, setP, dSet, dGet]
theorem moved_val1 {N : Nat} {x0 x1 x2 x3 y0 y1 y2 y3 t : Rat} (T : Ts N x0 x1 x2 x3 y0 y1 y2 y3) (ht : Sm N 100 t) :
    F_l_moved [tl x0 x1 x2 x3 y0 y1 y2 y3, .int 1, qd t] = .val (.lst true [.lst true [qd x0, qd x1, qd x2, qd x3], .lst true [qd (y0 - t), qd (y1 + t), qd (y2 + t), qd (y3 - t)]]) := by
  have m0 := l_minus_val (T.y0.z T.n0 (by decide) T.n1) (ht.z T.n0 (by decide) T.n1)
  have m1 := l_plus_val (T.y1.z T.n0 (by decide) T.n1) (ht.z T.n0 (by decide) T.n1)
  have m2 := l_plus_val (T.y2.z T.n0 (by decide) T.n1) (ht.z T.n0 (by decide) T.n1)
  have m3 := l_minus_val (T.y3.z T.n0 (by decide) T.n1) (ht.z T.n0 (by decide) T.n1)
  unfold F_l_moved G_l_moved tl
  simp [mMeth, gAppend, keysOf, getP, pathL, putP, eLc2, lcL2, sFor, forL, giSeq, giRng1, giRng2, giEnum, seqOf, eLc, lcL, wipeE, cYes, gLen, gAll, blsOf, sRaise, fz_qd, cln_qd, qd0, qd1, gNe_str, gEq_str, gIsN_non, gIsN_tup, gIsN_lst, gNotN_non, gNotN_tup, gNotN_lst, runF, sSeq, sIf, sNx, sPar, sSet, sAsg, sRet, sDrop, eA, eF, eC, eV, eOr, eAnd, eNot, eIf, lC, lN, mE, mV, mC, mN, mTup, mLst, Tg.put, tgPuts, D.fz, fzs, D.clean, cleans, frz, fzAt, le_size, lt_size, gLt_val, gGt_val, gLe_val, gGe_val, gSub_val, gNe_int, gEq_int, gEq_qd, gNe_qd, gAdd, gNeg, gGcd, gTup, gLst, gIx_tup, gIx_lst, gIx_scr, gIx_q0, gIx_q1, num_neg, num_zero, gNe_bl, gEq_bl, gIsN_qd, gNotN_qd, gInt, gAbs, atI, ixN, gList, m0, m1, m2, m3, setP, dSet, dGet]

theorem fzs_rng (n : Nat) : fzs ((List.range n).map fun (k : Nat) => D.int (k : Int)) = (List.range n).map fun (k : Nat) => D.int (k : Int) := by
  rw [fzs_eq, List.map_map]; rfl
theorem rng60 : giRng1 [.int 60] = some ((List.range 60).map fun (k : Nat) => D.int (k : Int)) := rfl
theorem draws_outer (ns : List Int) (xs : List Nat) (hx : ∀ k ∈ xs, k < ns.length ∧ k < 1000) : ∀ (ds : List Int) (e2 e3 e4 e5 : Option D), Bd ds → ds.length + 60 * xs.length < sizeLine →
    ∃ ds' e2' e3' e4' e5', forL (Tg.put (.nm 2)) B_l_draws_2 (xs.map fun (k : Nat) => D.int (k : Int)) [some (.scr ns), some (.lst true (ds.map D.int)), e2, e3, e4, e5] = .nx [some (.scr ns), some (.lst true (ds'.map D.int)), e2', e3', e4', e5'] ∧ Bd ds' ∧ ds'.length ≤ ds.length + 60 * xs.length := by
  induction xs with
  | nil => intro ds e2 e3 e4 e5 hb hl; exact ⟨ds, e2, e3, e4, e5, rfl, hb, by simp⟩
  | cons k xs ih =>
    intro ds e2 e3 e4 e5 hb hl
    simp only [List.length_cons] at hl
    obtain ⟨k1, k2⟩ := hx k List.mem_cons_self
    have at0 : atI ns (k : Int) = some ns[k] := by simp [atI, ixN, k1]
    have ab : gAbs [.int ns[k]] = .val (.int ((ns[k].natAbs : Nat) : Int)) := by
      show ER.val (D.int (if ns[k] < 0 then -ns[k] else ns[k])) = _
      congr 2; split <;> omega
    have pw : gPow [.int 10, .int 18] = .val (.int 1000000000000000000) := by
      have : gPow [.int 10, .int 18] = .val (.int (10 ^ (18 : Int).toNat)) := gI2_val ⟨by decide, by decide, by decide⟩
      rw [this]
      have t : (10 : Int) ^ ((18 : Int).toNat) = 1000000000000000000 := by decide +kernel
      rw [t]
    have hxs : ∀ q ∈ xs, q < ns.length ∧ q < 1000 := fun q hq => hx q (List.mem_cons_of_mem _ hq)
    by_cases big : (1000000000000000000 : Int) ≤ (ns[k].natAbs : Int)
    · obtain ⟨r', ds1, e4', e, g0, gb, gl⟩ := draws_inner (((List.range 60).map fun (k : Nat) => D.int (k : Int))) (ns[k].natAbs : Int) ds (some (.scr ns)) (some (.int (k : Int))) e4 e5 (by omega) hb (by simp; omega)
      simp only [List.length_map, List.length_range] at gl
      obtain ⟨ds', e2', e3', f4, f5, f, fb, fl⟩ := ih hxs ds1 (some (.int (k : Int))) (some (.int r')) e4' e5 gb (by omega)
      refine ⟨ds', e2', e3', f4, f5, ?_, fb, by rw [List.length_cons]; omega⟩
      rw [List.map_cons, forL, ← f]
      have put4 : Tg.put (.nm 4) = fun x y => some (List.set y 4 (some x)) := by funext x y; simp [Tg.put]
      rw [put4] at e
      have ge : gGe [.int ((ns[k].natAbs : Nat) : Int), .int 1000000000000000000] = .val (.bl true) := by rw [gGe_val]; simp [big]
      unfold B_l_draws_2
      simp [sSeq, sIf, sFor, sSet, sAsg, eA, lC, lN, eV, eC, D.fz, mE, gIx_scr, at0, ab, pw, ge, D.clean, cleans, Tg.put, rng60, fzs_rng, put4, e, -List.map_append, frz]
    · have ge : gGe [.int ((ns[k].natAbs : Nat) : Int), .int 1000000000000000000] = .val (.bl false) := by rw [gGe_val]; simp [big]
      have m1 : gMul [.int ((ns[k].natAbs : Nat) : Int), .int 48271] = .val (.int (((ns[k].natAbs : Nat) : Int) * 48271)) := gMul_val (a := 60) (b := 16) (by simp; omega) (by decide) (by decide) (by decide) (by decide)
      have m2 : gMul [.int ((k : Int) + 1), .int 69621] = .val (.int (((k : Int) + 1) * 69621)) := gMul_val (a := 60) (b := 17) (by omega) (by decide) (by decide) (by decide) (by decide)
      generalize hx1 : ((ns[k].natAbs : Nat) : Int) * 48271 + ((k : Int) + 1) * 69621 = x1
      have m3 : gMod [.int x1, .int 2147483647] = .val (.int (x1.fmod 2147483647)) := gMod_val (by decide)
      have b0 := Int.fmod_nonneg_of_pos x1 (b := 2147483647) (by decide)
      have b1 := Int.fmod_lt_of_pos x1 (b := 2147483647) (by decide)
      generalize hx2 : x1.fmod 2147483647 = x2 at m3 b0 b1
      have m4 : gMul [.int x2, .int 16807] = .val (.int (x2 * 16807)) := gMul_val (a := 60) (b := 15) (by omega) (by decide) (by decide) (by decide) (by decide)
      have m5 : gMul [.int 11, .int (k : Int)] = .val (.int (11 * (k : Int))) := gMul_val (a := 4) (b := 60) (by decide) (by omega) (by decide) (by decide) (by decide)
      generalize hx3 : x2 * 16807 + 11 * (k : Int) + 5 = x3
      have m6 : gMod [.int x3, .int 2147483629] = .val (.int (x3.fmod 2147483629)) := gMod_val (by decide)
      generalize hx4 : x3.fmod 2147483629 = x4 at m6
      have m7 : gMod [.int x4, .int 65536] = .val (.int (x4.fmod 65536)) := gMod_val (by decide)
      have m8 : gDiv [.int x4, .int 65536] = .val (.int (x4.fdiv 65536)) := gDiv_val (b := 17) (by decide) (by decide) (by decide) (by decide)
      have m9 : gMod [.int (x4.fdiv 65536), .int 32768] = .val (.int ((x4.fdiv 65536).fmod 32768)) := gMod_val (by decide)
      have a1 := gAppend_val (d := x4.fmod 65536) (show ds.length < sizeLine by omega)
      have a2 := gAppend_val (ds := ds ++ [x4.fmod 65536]) (d := (x4.fdiv 65536).fmod 32768) (by rw [List.length_append, List.length_singleton]; omega)
      obtain ⟨ds', e2', e3', f4, f5, f, fb, fl⟩ := ih hxs (ds ++ [x4.fmod 65536] ++ [(x4.fdiv 65536).fmod 32768]) (some (.int (k : Int))) (some (.int (ns[k].natAbs : Int))) e4 (some (.int x4)) (by
        intro d hd
        simp only [List.mem_append, List.mem_singleton] at hd
        rcases hd with (hd | rfl) | rfl
        · exact hb d hd
        · exact ⟨Int.fmod_nonneg_of_pos _ (by decide), Int.fmod_lt_of_pos _ (by decide)⟩
        · have q1 := Int.fmod_nonneg_of_pos (x4.fdiv 65536) (b := 32768) (by decide)
          have q2 := Int.fmod_lt_of_pos (x4.fdiv 65536) (b := 32768) (by decide)
          exact ⟨q1, by omega⟩) (by simp only [List.length_append, List.length_singleton]; omega)
      refine ⟨ds', e2', e3', f4, f5, ?_, fb, by simp only [List.length_append, List.length_singleton] at fl; rw [List.length_cons]; omega⟩
      rw [List.map_cons, forL, ← f]
      unfold B_l_draws_2
      simp [sSeq, sIf, sFor, sSet, sAsg, sDrop, eA, lC, lN, eV, eC, D.fz, mE, mC, mN, gIx_scr, at0, ab, pw, ge, D.clean, cleans, Tg.put, gInt, gAdd, m1, m2, hx1, m3, m4, m5, hx3, m6, m7, m8, m9, mMeth, keysOf, getP, pathL, putP, a1, a2, -List.map_append]
end DL

set_option Elab.async false
set_option linter.all false
set_option maxRecDepth 100000
set_option maxHeartbeats 2000000
namespace DL
open PySem PySem.Spec L2
open PyProof.Rows hiding St

theorem sFor_of {rd : List Nat} {l : Lv} {gi : List D → Option (List D)} {t : Tg} {b : Sv} {ρ : Env} {ds xs : List D} (h1 : l ρ = .vals ds) (h2 : gi ds = some xs) (h3 : cleans ds = true) : sFor rd l gi t b ρ = forL t.put b (fzs xs) ρ := by
  unfold sFor
  rw [h1]
  simp [h2, h3]
theorem hs3780 : 3780 < sizeLine := by rw [sizeLine_eq]; decide +kernel
theorem mn63 {n : Nat} (h : n ≤ 63) : gMin [.int 63, .int (n : Int)] = .val (.int (n : Int)) := by
  show ER.val (D.int (if (n : Int) < 63 then (n : Int) else 63)) = _
  congr 2
  split <;> omega
theorem rg63 {n : Nat} (h : n ≤ 63) : giRng1 [.int (n : Int)] = some ((List.range n).map fun (k : Nat) => D.int (k : Int)) := by
  simp only [giRng1]
  rw [if_pos ⟨by omega, by omega⟩, Int.toNat_natCast]
theorem dl0 {n : Nat} (h : n ≤ 63) : ([] : List Int).length + 60 * (List.range n).length < sizeLine := by
  rw [List.length_range, List.length_nil]
  exact Nat.lt_of_le_of_lt (by omega) hs3780
theorem draws_len {n m : Nat} (h : n ≤ 63) (l : m ≤ 0 + 60 * n) : m ≤ 3780 := by omega
theorem draws_mem {n : Nat} (h : n ≤ 63) : ∀ k ∈ List.range n, k < n ∧ k < 1000 := fun k hk => by have := List.mem_range.mp hk; omega
theorem ln_scr (ns : List Int) : gLen [.scr ns] = .val (.int (ns.length : Int)) := rfl
theorem ar_draws (ns : List Int) (h : ns.length ≤ 63) : (lC (eA gMin (lC (eC (.int 63)) (lC (eA gLen (lC (eV 0) lN)) lN))) lN) [some (.scr ns), some (.lst true []), none, none, none, none] = .vals [.int (ns.length : Int)] := by
  simp only [lC, eA, eC, eV, lN, List.getElem?_cons_zero, D.fz, ln_scr, mn63 h]
theorem st2_draws (ns : List Int) (h : ns.length ≤ 63) {r : SR} (e : forL (Tg.put (.nm 2)) B_l_draws_2 ((List.range ns.length).map fun (k : Nat) => D.int (k : Int)) [some (.scr ns), some (.lst true []), none, none, none, none] = r) :
    sFor [0] (lC (eA gMin (lC (eC (.int 63)) (lC (eA gLen (lC (eV 0) lN)) lN))) lN) giRng1 (.nm 2) B_l_draws_2 [some (.scr ns), some (.lst true []), none, none, none, none] = r := by
  rw [sFor_of (ar_draws ns h) (rg63 h) rfl, fzs_rng]
  exact e
theorem draws_val (ns : List Int) (h : ns.length ≤ 63) : ∃ ds, F_l_draws [.scr ns] = .val (.lst true (ds.map D.int)) ∧ Bd ds ∧ ds.length ≤ 3780 := by
  obtain ⟨ds, a2, a3, a4, a5, e, b, l⟩ := draws_outer ns (List.range ns.length) (draws_mem h) [] none none none none (fun d hd => nomatch hd) (dl0 h)
  simp only [List.length_range, List.length_nil] at l
  refine ⟨ds, ?_, b, draws_len h l⟩
  rw [List.map_nil] at e
  have st1 : sSet 1 (mE [] (eA gLst lN)) [some (.scr ns), none, none, none, none, none] = .nx [some (.scr ns), some (.lst true []), none, none, none, none] := by
    simp [sSet, sAsg, mE, eA, lN, gLst, D.clean, cleans, Tg.put]
  have st2 := st2_draws ns h e
  unfold F_l_draws G_l_draws
  simp only [runF, List.length_cons, List.length_nil, List.map_cons, List.map_nil, if_true, Nat.zero_add, Nat.reduceAdd, Nat.reduceSub, List.reduceReplicate, List.cons_append, List.nil_append]
  rw [sSeq_nx st1, sSeq_nx st2]
  simp [sRet, mV]
theorem atI_some {xs : List Int} {i : Int} (h0 : 0 ≤ i) (h1 : i < xs.length) : ∃ d, atI xs i = some d ∧ d ∈ xs := by
  have hl : i.toNat < xs.length := by omega
  exact ⟨xs[i.toNat], by simp [atI, ixN, h0, h1], List.getElem_mem hl⟩
theorem mix_val (ds : List Int) (hb : Bd ds) (k m : Int) (hk : 0 ≤ k ∧ k < 100) (hm : 0 < m) : ∃ r, F_l_mix [.lst false (ds.map D.int), .int k, .int m] = .val (.int r) ∧ 0 ≤ r ∧ r < m := by
  have fzd : fzs (ds.map D.int) = ds.map D.int := by rw [fzs_eq, List.map_map]; rfl
  have key : ∃ v : Int, 0 ≤ v ∧ v < 65536 ∧ ∀ Q : Sv, sSeq (sIf (eA gGt (lC (eA gLen (lC (eV 0) lN)) (lC (eC (.int 0)) lN)))
   (sSet 3 (mE [0, 1, 0] (eA gIx (lC (eV 0) (lC (eA gMod (lC (eA gInt (lC (eV 1) lN)) (lC (eA gLen (lC (eV 0) lN)) lN))) lN)))))
   sNx) Q [some (.lst false (ds.map D.int)), some (.int k), some (.int m), some (.int 0)] = Q [some (.lst false (ds.map D.int)), some (.int k), some (.int m), some (.int v)] := by
    by_cases h0 : ds.length = 0
    · refine ⟨0, by decide, by decide, fun Q => ?_⟩
      simp [sSeq, sIf, sNx, eA, lC, lN, eV, eC, D.fz, fzd, gLen, gGt_val, h0]
    · have g : gMod [.int k, .int (ds.length : Int)] = .val (.int (k.fmod ds.length)) := gMod_val (by omega)
      obtain ⟨d, e, hd⟩ := atI_some (xs := ds) (i := k.fmod ds.length) (Int.fmod_nonneg_of_pos _ (by omega)) (Int.fmod_lt_of_pos _ (by omega))
      obtain ⟨d0, d1⟩ := hb d hd
      refine ⟨d, d0, d1, fun Q => ?_⟩
      have hp : 0 < ds.length := by omega
      simp [sSeq, sIf, sNx, sSet, sAsg, mE, eA, lC, lN, eV, eC, D.fz, fzd, gLen, gGt_val, hp, gInt, g, gIx_lst, atI_map, e, D.clean, Tg.put]
  obtain ⟨v, v0, v1, kq⟩ := key
  have m1 : gMod [.int v, .int m] = .val (.int (v.fmod m)) := gMod_val (by omega)
  have m2 : gMul [.int v, .int 7919] = .val (.int (v * 7919)) := gMul_val (a := 17) (b := 13) (by omega) (by decide) (by decide) (by decide) (by decide)
  have m3 : gMul [.int k, .int 104729] = .val (.int (k * 104729)) := gMul_val (a := 17) (b := 17) (by omega) (by decide) (by decide) (by decide) (by decide)
  generalize hx : v * 7919 + k * 104729 = x
  have m4 : gDiv [.int x, .int 3] = .val (.int (x.fdiv 3)) := gDiv_val (b := 2) (by decide) (by decide) (by decide) (by decide)
  have m5 : gMod [.int (x.fdiv 3), .int m] = .val (.int ((x.fdiv 3).fmod m)) := gMod_val (by omega)
  unfold F_l_mix G_l_mix
  have st : sSet 3 (mE [] (eC (.int 0))) [some (.lst false (ds.map D.int)), some (.int k), some (.int m), none] = .nx [some (.lst false (ds.map D.int)), some (.int k), some (.int m), some (.int 0)] := by
    simp [sSet, sAsg, mE, eC, D.clean, Tg.put]
  by_cases hl : k < ds.length
  · refine ⟨v.fmod m, ?_, Int.fmod_nonneg_of_pos _ hm, Int.fmod_lt_of_pos _ hm⟩
    simp only [runF, List.length_cons, List.length_nil, List.map_cons, List.map_nil, if_true, Nat.zero_add, Nat.reduceAdd, Nat.reduceSub, List.replicate_one, List.cons_append, List.nil_append]
    rw [sSeq_nx st, kq]
    simp [sSeq, sIf, sNx, sRet, mE, eA, lC, lN, eV, eC, D.fz, fzd, gLen, gLt_val, hl, gInt, m1]
  · refine ⟨(x.fdiv 3).fmod m, ?_, Int.fmod_nonneg_of_pos _ hm, Int.fmod_lt_of_pos _ hm⟩
    simp only [runF, List.length_cons, List.length_nil, List.map_cons, List.map_nil, if_true, Nat.zero_add, Nat.reduceAdd, Nat.reduceSub, List.replicate_one, List.cons_append, List.nil_append]
    rw [sSeq_nx st, kq]
    simp [sSeq, sIf, sNx, sRet, mE, eA, lC, lN, eV, eC, D.fz, fzd, gLen, gLt_val, hl, gInt, m2, m3, gAdd, hx, m4, m5]
end DL

set_option Elab.async false
set_option linter.all false
set_option maxRecDepth 100000
set_option maxHeartbeats 2000000
namespace DL
open PySem PySem.Spec L2
open PyProof.Rows hiding St
theorem sz_dv {n d : Int} (hn : n.natAbs < 2 ^ 400) (hd : d.natAbs < 2 ^ 400) (h0 : d ≠ 0) : Sz (Rat.divInt n d) := by
  constructor
  · rw [Rat.num_divInt]
    refine Nat.lt_of_le_of_lt (Int.natAbs_ediv_le_natAbs _ _) ?_
    rw [Int.natAbs_mul, Int.natAbs_sign_of_ne_zero h0, Nat.one_mul]
    exact hn
  · rw [Rat.den_divInt, if_neg h0]
    exact Nat.lt_of_le_of_lt (Nat.div_le_self _ _) hd
theorem sz_div {N : Nat} {x w : Rat} (hN : N ≠ 0) (h1 : N ≤ 1000000) (hx : Sm N 1000 x) (hw : Sm N 100 w) (h : 0 < w) : Sz (x / w) := by
  have e : x / w = Rat.divInt (x.num * w.den) ((x.den : Int) * w.num) := by
    rw [Rat.div_def, Rat.inv_def]
    conv => lhs; rw [← Rat.num_divInt_den x]
    rw [Rat.divInt_mul_divInt]
  have hn : 0 < w.num := by
    have h1 := Rat.num_nonneg (q := w)
    have h2 := Rat.num_eq_zero (q := w)
    have : 0 ≤ w.num := h1.mpr (by grind)
    have : w.num ≠ 0 := fun z => by have := h2.mp z; grind
    omega
  have b : 1000 * N < 2 ^ 200 := Nat.lt_of_le_of_lt (Nat.mul_le_mul_left 1000 h1) (by decide +kernel)
  have b2 : 100 * N < 2 ^ 200 := Nat.lt_of_le_of_lt (Nat.mul_le_mul_right N (by decide)) b
  have b3 : N < 2 ^ 200 := Nat.lt_of_le_of_lt h1 (by decide +kernel)
  rw [e]
  refine sz_dv (natAbs_mul_lt (a := 200) (b := 200) (Nat.lt_of_le_of_lt (hx.num hN) b) ?_) (natAbs_mul_lt (a := 200) (b := 200) ?_ (Nat.lt_of_le_of_lt (hw.num hN) b2)) ?_
  · rw [Int.natAbs_natCast]; exact Nat.lt_of_le_of_lt (hw.den hN) b3
  · rw [Int.natAbs_natCast]; exact Nat.lt_of_le_of_lt (hx.den hN) b3
  · have := x.den_pos
    exact Int.mul_ne_zero (by omega) (by omega)
def Vw : Nat → Rat → Rat → Rat
  | 0, x, y => x + y
  | 1, _, y => y
  | _, x, _ => x
def Ww (a d : Rat) : Nat → Rat
  | 0 => 1
  | 1 => d
  | _ => a
def Nw : Nat → Str
  | 0 => "both"
  | 1 => "needed"
  | _ => "enough"
/-- a record that fits -/
structure Gd (N : Nat) (a b c d z o : Rat) : Prop where
  R : Rs N a b c d z o
  ia : in01 a
  ib : in01 b
  ic : in01 c
  id : in01 d
  iz : in01 z
  io : in01 o
  s : a + b + c + d = 1
  f0 : 0 ≤ o - d
  f1 : o - d ≤ a + b
  f2 : 0 ≤ z - b
  f3 : z - b ≤ c + d
section
variable {N : Nat} {a b c d z o : Rat}
theorem Gd.chk (G : Gd N a b c d z o) : F_check_record [rc a b c d z o] = .val .non := by
  have h := check_val G.R ⟨G.ia.1, G.ia.2, G.ib.1, G.ib.2, G.ic.1, G.ic.2, G.id.1, G.id.2, G.iz.1, G.iz.2, G.io.1, G.io.2⟩ G.s
  have h0 := G.f0
  have h1 := G.f1
  have h2 := G.f2
  have h3 := G.f3
  rw [h, if_neg (by grind)]
theorem Gd.w0 (G : Gd N a b c d z o) (j : Nat) : 0 ≤ Ww a d j := by
  unfold Ww; split
  · decide
  · exact G.id.1
  · exact G.ia.1
theorem Gd.wS (G : Gd N a b c d z o) (j : Nat) : Sm N 100 (Ww a d j) := by
  unfold Ww; split
  · exact Sm.one (by decide)
  · exact G.R.d
  · exact G.R.a
theorem Vw_sm {x y : Rat} (hx : Sm N 500 x) (hy : Sm N 500 y) (j : Nat) : Sm N 1000 (Vw j x y) := by
  unfold Vw; split
  · exact hx.add hy
  · exact hy.mono (by decide)
  · exact hx.mono (by decide)
theorem Vw_mono {x y x' y' : Rat} (hx : x ≤ x') (hy : y ≤ y') (j : Nat) : Vw j x y ≤ Vw j x' y' := by
  unfold Vw; split <;> grind
theorem div1 (x : Rat) : x / 1 = x := by grind
theorem ends_w (G : Gd N a b c d z o) (j : Nat) : F_ends_of [rc a b c d z o, .str (Nw j)] = .val (qends (Vw j (hz0 b d o) (ho0 b d z)) (Vw j (hz1 a d o) (ho1 b c d z)) (Ww a d j)) := by
  match j with
  | 0 =>
    have h := ends_both G.R
    show F_ends_of [rc a b c d z o, .str "both"] = .val (qends (hz0 b d o + ho0 b d z) (hz1 a d o + ho1 b c d z) 1)
    rw [h]
    unfold qends
    rw [if_neg (by decide), div1, div1]
  | 1 => exact ends_needed G.R
  | _ + 2 => exact ends_enough G.R
theorem chance_w (G : Gd N a b c d z o) {x0 x1 x2 x3 y0 y1 y2 y3 : Rat} (T : Ts N x0 x1 x2 x3 y0 y1 y2 y3) (k : okT a b c d z o x0 x1 x2 x3 y0 y1 y2 y3) (j : Nat) :
    F_l_chance [tl x0 x1 x2 x3 y0 y1 y2 y3, .str (Nw j)] = .val (qn (Vw j x1 y1) (Ww a d j)) ∧ F_chance_by [tl x0 x1 x2 x3 y0 y1 y2 y3, .str (Nw j)] = .val (qn (Vw j x1 y1) (Ww a d j)) := by
  obtain ⟨h, ⟨⟨e1, e2⟩, e3, e4⟩, e5, e6⟩ := k
  match j with
  | 0 =>
    have h1 := l_chance_both T
    have h2 := chance_both T
    show F_l_chance [tl x0 x1 x2 x3 y0 y1 y2 y3, .str "both"] = .val (qn (x1 + y1) 1) ∧ F_chance_by [tl x0 x1 x2 x3 y0 y1 y2 y3, .str "both"] = .val (qn (x1 + y1) 1)
    rw [h1, h2]
    unfold qn
    rw [if_neg (by decide), div1]
    exact ⟨rfl, rfl⟩
  | 1 =>
    have hy1 := (h y1 (by simp)).1
    have hy3 := (h y3 (by simp)).1
    have h1 := l_chance_needed T (by grind)
    have h2 := chance_needed T
    rw [e4] at h1 h2
    exact ⟨h1, h2⟩
  | _ + 2 =>
    have hx0 := (h x0 (by simp)).1
    have hx1 := (h x1 (by simp)).1
    have h1 := l_chance_enough T (by grind)
    have h2 := chance_enough T
    rw [e1] at h1 h2
    exact ⟨h1, h2⟩
theorem ends_t (G : Gd N a b c d z o) (j : Nat) (h : Ww a d j ≠ 0) : F_ends_of [rc a b c d z o, .str (Nw j)] = .val (.tup [qd (Vw j (hz0 b d o) (ho0 b d z) / Ww a d j), qd (Vw j (hz1 a d o) (ho1 b c d z) / Ww a d j)]) := by
  rw [ends_w G j]; unfold qends; rw [if_neg h]
theorem ends_n (G : Gd N a b c d z o) (j : Nat) (h : Ww a d j = 0) : F_ends_of [rc a b c d z o, .str (Nw j)] = .val .non := by
  rw [ends_w G j]; unfold qends; rw [if_pos h]
theorem fz_tw {x y : Rat} : (tw a b c d z o x y).fz = tl (a - x) x (b - (o - d - x)) (o - d - x) (c + d - (z - b) - y) y (z - b - (d - y)) (d - y) := by
  simp [tw, tl, D.fz, fzs, fz_qd]
theorem Sm.in1 {M : Nat} {r : Rat} (h : Sm N M r) (i : in01 r) : Sm N 1 r := ⟨h.on, by simpa using i.2, by have := i.1; simp; grind⟩
theorem ok_tw (G : Gd N a b c d z o) {x y : Rat} (x0 : hz0 b d o ≤ x) (x1 : x ≤ hz1 a d o) (y0 : ho0 b d z ≤ y) (y1 : y ≤ ho1 b c d z) :
    okT a b c d z o (a - x) x (b - (o - d - x)) (o - d - x) (c + d - (z - b) - y) y (z - b - (d - y)) (d - y) := by
  obtain ⟨R, ⟨a0, a1⟩, ⟨b0, b1⟩, ⟨c0, c1⟩, ⟨d0, d1⟩, ⟨z0, z1⟩, ⟨o0, o1⟩, s, f0, f1, f2, f3⟩ := G
  have hx0 : 0 ≤ x ∧ o - d - b ≤ x := by unfold hz0 at x0; split at x0 <;> grind
  have hx1 : x ≤ a ∧ x ≤ o - d := by unfold hz1 at x1; split at x1 <;> grind
  have hy0 : 0 ≤ y ∧ d - (z - b) ≤ y := by unfold ho0 at y0; split at y0 <;> grind
  have hy1 : y ≤ d ∧ y ≤ c + d - (z - b) := by unfold ho1 at y1; split at y1 <;> grind
  clear x0 x1 y0 y1 R
  obtain ⟨p1, p2⟩ := hx0
  obtain ⟨p3, p4⟩ := hx1
  obtain ⟨p5, p6⟩ := hy0
  obtain ⟨p7, p8⟩ := hy1
  refine ⟨?_, ⟨⟨by grind, by grind⟩, by grind, by grind⟩, by grind, by grind⟩
  intro r hr
  simp only [List.mem_cons, List.not_mem_nil, or_false] at hr
  unfold in01
  rcases hr with rfl | rfl | rfl | rfl | rfl | rfl | rfl | rfl <;> constructor <;> grind
theorem ts_tw (G : Gd N a b c d z o) {x y : Rat} (hx : Sm N 500 x) (hy : Sm N 500 y) (k : okT a b c d z o (a - x) x (b - (o - d - x)) (o - d - x) (c + d - (z - b) - y) y (z - b - (d - y)) (d - y)) :
    Ts N (a - x) x (b - (o - d - x)) (o - d - x) (c + d - (z - b) - y) y (z - b - (d - y)) (d - y) := by
  have h := k.1
  have R := G.R
  exact {
    n0 := R.n0
    n1 := R.n1
    x0 := ((R.a.sub hx).in1 (h _ (by simp))).mono (by decide)
    x1 := (hx.in1 (h _ (by simp))).mono (by decide)
    x2 := ((R.b.sub ((R.o.sub R.d).sub hx)).in1 (h _ (by simp))).mono (by decide)
    x3 := (((R.o.sub R.d).sub hx).in1 (h _ (by simp))).mono (by decide)
    y0 := ((((R.c.add R.d).sub (R.z.sub R.b)).sub hy).in1 (h _ (by simp))).mono (by decide)
    y1 := (hy.in1 (h _ (by simp))).mono (by decide)
    y2 := (((R.z.sub R.b).sub (R.d.sub hy)).in1 (h _ (by simp))).mono (by decide)
    y3 := ((R.d.sub hy).in1 (h _ (by simp))).mono (by decide) }
theorem between (G : Gd N a b c d z o) {x0 x1 x2 x3 y0 y1 y2 y3 : Rat} (k : okT a b c d z o x0 x1 x2 x3 y0 y1 y2 y3) :
    (hz0 b d o ≤ x1 ∧ x1 ≤ hz1 a d o) ∧ (ho0 b d z ≤ y1 ∧ y1 ≤ ho1 b c d z) := by
  obtain ⟨h, ⟨⟨e1, e2⟩, e3, e4⟩, e5, e6⟩ := k
  have q0 := (h x0 (by simp)).1
  have q1 := (h x1 (by simp)).1
  have q2 := (h x2 (by simp)).1
  have q3 := (h x3 (by simp)).1
  have r0 := (h y0 (by simp)).1
  have r1 := (h y1 (by simp)).1
  have r2 := (h y2 (by simp)).1
  have r3 := (h y3 (by simp)).1
  clear h
  unfold hz0 hz1 ho0 ho1
  refine ⟨⟨?_, ?_⟩, ?_, ?_⟩ <;> split <;> grind
theorem gaps (G : Gd N a b c d z o) : hz0 b d o ≤ hz1 a d o ∧ ho0 b d z ≤ ho1 b c d z := by
  obtain ⟨R, ⟨a0, a1⟩, ⟨b0, b1⟩, ⟨c0, c1⟩, ⟨d0, d1⟩, ⟨z0, z1⟩, ⟨o0, o1⟩, s, f0, f1, f2, f3⟩ := G
  unfold hz0 hz1 ho0 ho1
  refine ⟨?_, ?_⟩ <;> split <;> split <;> grind
theorem div_mono {x y w : Rat} (h : 0 < w) (hx : x ≤ y) : ¬ (y / w < x / w) := by
  rw [Rat.div_lt_iff h, Rat.div_mul_cancel (by grind)]
  grind
end
end DL

set_option Elab.async false
set_option linter.all false
set_option maxRecDepth 100000
set_option maxHeartbeats 2000000
namespace DL
open PySem PySem.Spec L2
open PyProof.Rows hiding St
/-- an entry of the lists: types on N -/
def Ent (N : Nat) (e : D) : Prop := ∃ x0 x1 x2 x3 y0 y1 y2 y3, e.fz = tl x0 x1 x2 x3 y0 y1 y2 y3 ∧ Ts N x0 x1 x2 x3 y0 y1 y2 y3
theorem tl_fz (x0 x1 x2 x3 y0 y1 y2 y3 : Rat) : (tl x0 x1 x2 x3 y0 y1 y2 y3).fz = tl x0 x1 x2 x3 y0 y1 y2 y3 := by simp [tl, D.fz, fzs, fz_qd]
theorem cln_tw {a b c d z o x y : Rat} : (tw a b c d z o x y).clean = true := by simp [tw, D.clean, cleans, cln_qd]
theorem qn_ne {x w : Rat} (h : w ≠ 0) : qn x w = qd (x / w) := if_neg h
theorem qn_eq {x w : Rat} (h : w = 0) : qn x w = .non := if_pos h
theorem gAppend_d {L : List D} {d : D} (h : L.length < 1000) : gAppend (.lst true L) [d] = some (.lst true (L ++ [d]), .non) := by
  unfold gAppend
  simp [lt_size h]
open Classical in
theorem are_true {N : Nat} {a b c d z o x0 x1 x2 x3 y0 y1 y2 y3 : Rat} (T : Ts N x0 x1 x2 x3 y0 y1 y2 y3) (k : okT a b c d z o x0 x1 x2 x3 y0 y1 y2 y3) : F_l_are_types [rc a b c d z o, tl x0 x1 x2 x3 y0 y1 y2 y3] = .val (.bl true) := by
  rw [l_are_val T, decide_eq_true k]
open Classical in
theorem are_false {N : Nat} {a b c d z o x0 x1 x2 x3 y0 y1 y2 y3 : Rat} (T : Ts N x0 x1 x2 x3 y0 y1 y2 y3) (k : ¬ okT a b c d z o x0 x1 x2 x3 y0 y1 y2 y3) : F_l_are_types [rc a b c d z o, tl x0 x1 x2 x3 y0 y1 y2 y3] = .val (.bl false) := by
  rw [l_are_val T, decide_eq_false k]
section
variable {N : Nat} {a b c d z o : Rat} {e0 e1 e2 e3 e4 e5 e6 e8 e11 e12 e13 e14 e15 e16 e17 e18 e19 e20 e21 e22 : Option D} {r7 : D} {L : List D}
theorem b1_non (G : Gd N a b c d z o) (h7 : r7.fz = rc a b c d z o) (j : Nat) (hw : Ww a d j = 0) (k : Int) (hk : k = 0 ∨ k = 1) :
    B_law_1 [e0, e1, e2, some (.int k), e4, e5, e6, some r7, e8, some (.lst true L), some (.str (Nw j)), e11, some .non, e13, e14, e15, e16, e17, e18, e19, e20, e21, e22] =
    .nx [e0, e1, e2, some (.int k), e4, e5, e6, some r7, e8, some (.lst true L), some (.str (Nw j)), e11, some .non, some .non, e14, e15, e16, e17, e18, e19, e20, e21, e22] := by
  have t1 := types_none (e := "least") G.chk (ends_n G j hw)
  have t2 := types_none (e := "greatest") G.chk (ends_n G j hw)
  unfold B_law_1
  rcases hk with rfl | rfl
  · simp [mMeth, gAppend, keysOf, getP, pathL, putP, eLc2, lcL2, sFor, forL, giSeq, giRng1, giRng2, giEnum, seqOf, eLc, lcL, wipeE, cYes, gLen, gAll, blsOf, sRaise, fz_qd, cln_qd, qd0, qd1, gNe_str, gEq_str, gIsN_non, gIsN_tup, gIsN_lst, gNotN_non, gNotN_tup, gNotN_lst, runF, sSeq, sIf, sNx, sPar, sSet, sAsg, sRet, sDrop, eA, eF, eC, eV, eOr, eAnd, eNot, eIf, lC, lN, mE, mV, mC, mN, mTup, mLst, Tg.put, tgPuts, D.fz, fzs, D.clean, cleans, frz, fzAt, le_size, lt_size, gLt_val, gGt_val, gLe_val, gGe_val, gSub_val, gNe_int, gEq_int, gEq_qd, gNe_qd, gAdd, gNeg, gGcd, gTup, gLst, gIx_tup, gIx_lst, gIx_scr, gIx_q0, gIx_q1, num_neg, num_zero, gNe_bl, gEq_bl, gIsN_qd, gNotN_qd, gInt, gAbs, atI, ixN, h7, rc_fz, tl_fz, t1]
  · simp [mMeth, gAppend, keysOf, getP, pathL, putP, eLc2, lcL2, sFor, forL, giSeq, giRng1, giRng2, giEnum, seqOf, eLc, lcL, wipeE, cYes, gLen, gAll, blsOf, sRaise, fz_qd, cln_qd, qd0, qd1, gNe_str, gEq_str, gIsN_non, gIsN_tup, gIsN_lst, gNotN_non, gNotN_tup, gNotN_lst, runF, sSeq, sIf, sNx, sPar, sSet, sAsg, sRet, sDrop, eA, eF, eC, eV, eOr, eAnd, eNot, eIf, lC, lN, mE, mV, mC, mN, mTup, mLst, Tg.put, tgPuts, D.fz, fzs, D.clean, cleans, frz, fzAt, le_size, lt_size, gLt_val, gGt_val, gLe_val, gGe_val, gSub_val, gNe_int, gEq_int, gEq_qd, gNe_qd, gAdd, gNeg, gGcd, gTup, gLst, gIx_tup, gIx_lst, gIx_scr, gIx_q0, gIx_q1, num_neg, num_zero, gNe_bl, gEq_bl, gIsN_qd, gNotN_qd, gInt, gAbs, atI, ixN, h7, rc_fz, tl_fz, t2]
theorem b1_tup (G : Gd N a b c d z o) (h7 : r7.fz = rc a b c d z o) (j : Nat) (hw : Ww a d j ≠ 0) (k : Int) (hk : k = 0 ∨ k = 1) (hL : L.length < 1000) :
    ∃ e, Ent N e ∧ B_law_1 [e0, e1, e2, some (.int k), e4, e5, e6, some r7, e8, some (.lst true L), some (.str (Nw j)), e11, some (.tup [qd (Vw j (hz0 b d o) (ho0 b d z) / Ww a d j), qd (Vw j (hz1 a d o) (ho1 b c d z) / Ww a d j)]), e13, e14, e15, e16, e17, e18, e19, e20, e21, e22] =
    .nx [e0, e1, e2, some (.int k), e4, e5, e6, some r7, e8, some (.lst true (L ++ [e])), some (.str (Nw j)), e11, some (.tup [qd (Vw j (hz0 b d o) (ho0 b d z) / Ww a d j), qd (Vw j (hz1 a d o) (ho1 b c d z) / Ww a d j)]), none, e14, e15, e16, e17, e18, e19, e20, e21, e22] := by
  obtain ⟨g1, g2⟩ := gaps G
  rcases hk with rfl | rfl
  · have t1 := types_least G.R G.chk (ends_t G j hw)
    have k := ok_tw G Rat.le_refl g1 Rat.le_refl g2
    have T := ts_tw G (sm_hz0 G.R) (sm_ho0 G.R) k
    obtain ⟨c1, c2⟩ := chance_w G T k j
    rw [qn_ne hw] at c1 c2
    have la := are_true T k
    refine ⟨_, ⟨_, _, _, _, _, _, _, _, fz_tw, T⟩, ?_⟩
    unfold B_law_1
    simp [mMeth, gAppend, keysOf, getP, pathL, putP, eLc2, lcL2, sFor, forL, giSeq, giRng1, giRng2, giEnum, seqOf, eLc, lcL, wipeE, cYes, gLen, gAll, blsOf, sRaise, fz_qd, cln_qd, qd0, qd1, gNe_str, gEq_str, gIsN_non, gIsN_tup, gIsN_lst, gNotN_non, gNotN_tup, gNotN_lst, runF, sSeq, sIf, sNx, sPar, sSet, sAsg, sRet, sDrop, eA, eF, eC, eV, eOr, eAnd, eNot, eIf, lC, lN, mE, mV, mC, mN, mTup, mLst, Tg.put, tgPuts, D.fz, fzs, D.clean, cleans, frz, fzAt, le_size, lt_size, gLt_val, gGt_val, gLe_val, gGe_val, gSub_val, gNe_int, gEq_int, gEq_qd, gNe_qd, gAdd, gNeg, gGcd, gTup, gLst, gIx_tup, gIx_lst, gIx_scr, gIx_q0, gIx_q1, num_neg, num_zero, gNe_bl, gEq_bl, gIsN_qd, gNotN_qd, gInt, gAbs, atI, ixN, h7, rc_fz, tl_fz, t1, cln_tw, fz_tw, la, c1, c2, lt_size hL]
  · have t1 := types_greatest G.R G.chk (ends_t G j hw)
    have k := ok_tw G g1 Rat.le_refl g2 Rat.le_refl
    have T := ts_tw G (sm_hz1 G.R) (sm_ho1 G.R) k
    obtain ⟨c1, c2⟩ := chance_w G T k j
    rw [qn_ne hw] at c1 c2
    have la := are_true T k
    refine ⟨_, ⟨_, _, _, _, _, _, _, _, fz_tw, T⟩, ?_⟩
    unfold B_law_1
    simp [mMeth, gAppend, keysOf, getP, pathL, putP, eLc2, lcL2, sFor, forL, giSeq, giRng1, giRng2, giEnum, seqOf, eLc, lcL, wipeE, cYes, gLen, gAll, blsOf, sRaise, fz_qd, cln_qd, qd0, qd1, gNe_str, gEq_str, gIsN_non, gIsN_tup, gIsN_lst, gNotN_non, gNotN_tup, gNotN_lst, runF, sSeq, sIf, sNx, sPar, sSet, sAsg, sRet, sDrop, eA, eF, eC, eV, eOr, eAnd, eNot, eIf, lC, lN, mE, mV, mC, mN, mTup, mLst, Tg.put, tgPuts, D.fz, fzs, D.clean, cleans, frz, fzAt, le_size, lt_size, gLt_val, gGt_val, gLe_val, gGe_val, gSub_val, gNe_int, gEq_int, gEq_qd, gNe_qd, gAdd, gNeg, gGcd, gTup, gLst, gIx_tup, gIx_lst, gIx_scr, gIx_q0, gIx_q1, num_neg, num_zero, gNe_bl, gEq_bl, gIsN_qd, gNotN_qd, gInt, gAbs, atI, ixN, h7, rc_fz, tl_fz, t1, cln_tw, fz_tw, la, c1, c2, lt_size hL]
theorem divInt_on {t : Int} {N : Nat} (hN : N ≠ 0) : Rat.divInt t (N : Int) * (N : Rat) = (t : Rat) := by
  rw [Rat.divInt_eq_div, Rat.intCast_natCast]
  have : (N : Rat) ≠ 0 := by exact_mod_cast hN
  rw [Rat.div_mul_cancel this]
theorem divInt_sm {t : Int} {N M : Nat} (hN : N ≠ 0) (h : t.natAbs ≤ M) : Sm N M (Rat.divInt t (N : Int)) := by
  have e := divInt_on (t := t) hN
  have n1 : (1 : Rat) ≤ (N : Rat) := by exact_mod_cast (by omega : 1 ≤ N)
  have m1 : (t : Rat) ≤ (M : Rat) := by rw [← Rat.intCast_natCast]; exact_mod_cast (by omega : t ≤ (M : Int))
  have m2 : -(M : Rat) ≤ (t : Rat) := by rw [← Rat.intCast_natCast, ← Rat.intCast_neg]; exact_mod_cast (by omega : -(M : Int) ≤ t)
  have m0 : (0 : Rat) ≤ (M : Rat) := by exact_mod_cast Nat.zero_le M
  have mn : (M : Rat) ≤ (M : Rat) * (N : Rat) := by
    have := Rat.mul_le_mul_of_nonneg_left n1 m0
    rwa [Rat.mul_one] at this
  have np : (0 : Rat) < (N : Rat) := by grind
  refine ⟨⟨t, e⟩, ?_, ?_⟩
  · exact Rat.le_of_mul_le_mul_right (by rw [e]; grind) np
  · exact Rat.le_of_mul_le_mul_right (by rw [e]; grind) np
theorem b2_step (G : Gd N a b c d z o) {x0 x1 x2 x3 y0 y1 y2 y3 : Rat} (T : Ts N x0 x1 x2 x3 y0 y1 y2 y3) (k0 : okT a b c d z o x0 x1 x2 x3 y0 y1 y2 y3)
    {P2 t6 : D} {S : Nat} (hS : N = 4 * S) (hs : gSum [P2.fz] = .val (.int (S : Int)))
    (h7 : r7.fz = rc a b c d z o) (h6 : t6.fz = tl x0 x1 x2 x3 y0 y1 y2 y3) (j : Nat) (hw : Ww a d j ≠ 0) (x : Int) (hx : x = 0 ∨ x = 1) (t : Int) (ht : t.natAbs ≤ 4) (hL : L.length < 1000) :
    ∃ L' e16' e17', (L' = L ∨ ∃ e, Ent N e ∧ L' = L ++ [e]) ∧ B_law_2 [e0, e1, some P2, e3, e4, e5, some t6, some r7, e8, some (.lst true L), some (.str (Nw j)), e11, some (.tup [qd (Vw j (hz0 b d o) (ho0 b d z) / Ww a d j), qd (Vw j (hz1 a d o) (ho1 b c d z) / Ww a d j)]), e13, some (.int x), some (.int t), e16, e17, e18, e19, e20, e21, e22] =
    .nx [e0, e1, some P2, e3, e4, e5, some t6, some r7, e8, some (.lst true L'), some (.str (Nw j)), e11, some (.tup [qd (Vw j (hz0 b d o) (ho0 b d z) / Ww a d j), qd (Vw j (hz1 a d o) (ho1 b c d z) / Ww a d j)]), e13, some (.int x), some (.int t), e16', e17', e18, e19, e20, e21, e22] := by
  have hN := G.R.n0
  have n1 := G.R.n1
  have m4 : gMul [.int 4, .int (S : Int)] = .val (.int ((N : Nat) : Int)) := by
    rw [gMul_val (a := 3) (b := 30) (by decide) (by rw [Int.natAbs_natCast]; omega) (by decide) (by decide) (by decide), hS]
    simp
  have lo := l_low_val t N hN (Nat.lt_of_le_of_lt n1 (by decide +kernel))
  have st : Sm N 4 (Rat.divInt t (N : Int)) := divInt_sm hN ht
  generalize Rat.divInt t (N : Int) = s at lo st
  have U : ∀ r, r ∈ [x0, x1, x2, x3, y0, y1, y2, y3] → Sm N 100 r → Sm N 1 r := fun r hr h => h.in1 (k0.1 r hr)
  have U0 := U x0 (by simp) T.x0
  have U1 := U x1 (by simp) T.x1
  have U2 := U x2 (by simp) T.x2
  have U3 := U x3 (by simp) T.x3
  have V0 := U y0 (by simp) T.y0
  have V1 := U y1 (by simp) T.y1
  have V2 := U y2 (by simp) T.y2
  have V3 := U y3 (by simp) T.y3
  have wp : 0 < Ww a d j := by have := G.w0 j; grind
  rcases hx with rfl | rfl
  · have mv := moved_val0 T (st.mono (by decide))
    have T' : Ts N (x0 - s) (x1 + s) (x2 + s) (x3 - s) y0 y1 y2 y3 := ⟨hN, n1, (U0.sub st).mono (by decide), (U1.add st).mono (by decide), (U2.add st).mono (by decide), (U3.sub st).mono (by decide), T.y0, T.y1, T.y2, T.y3⟩
    by_cases k : okT a b c d z o (x0 - s) (x1 + s) (x2 + s) (x3 - s) y0 y1 y2 y3
    · have la := are_true T' k
      have c1 := (chance_w G T' k j).1
      rw [qn_ne hw] at c1
      obtain ⟨⟨q1, q2⟩, q3, q4⟩ := between G k
      have V := Vw_sm (N := N) (x := x1 + s) (y := y1) ((U1.add st).mono (by decide)) (V1.mono (by decide)) j
      have l1 := l_less_val (sz_div hN n1 V (G.wS j) wp) (sz_div hN n1 (Vw_sm (sm_hz0 G.R) (sm_ho0 G.R) j) (G.wS j) wp)
      have l2 := l_less_val (sz_div hN n1 (Vw_sm (sm_hz1 G.R) (sm_ho1 G.R) j) (G.wS j) wp) (sz_div hN n1 V (G.wS j) wp)
      rw [decide_eq_false (div_mono wp (Vw_mono q1 q3 j))] at l1
      rw [decide_eq_false (div_mono wp (Vw_mono q2 q4 j))] at l2
      refine ⟨_, none, some (qd (Vw j (x1 + s) y1 / Ww a d j)), .inr ⟨.lst true [.lst true [qd (x0 - s), qd (x1 + s), qd (x2 + s), qd (x3 - s)], .lst true [qd y0, qd y1, qd y2, qd y3]], ⟨_, _, _, _, _, _, _, _, by simp [tl, D.fz, fzs, fz_qd], T'⟩, rfl⟩, ?_⟩
      unfold tl at la c1
      unfold B_law_2
      simp [mMeth, gAppend, keysOf, getP, pathL, putP, eLc2, lcL2, sFor, forL, giSeq, giRng1, giRng2, giEnum, seqOf, eLc, lcL, wipeE, cYes, gLen, gAll, blsOf, sRaise, fz_qd, cln_qd, qd0, qd1, gNe_str, gEq_str, gIsN_non, gIsN_tup, gIsN_lst, gNotN_non, gNotN_tup, gNotN_lst, runF, sSeq, sIf, sNx, sPar, sSet, sAsg, sRet, sDrop, eA, eF, eC, eV, eOr, eAnd, eNot, eIf, lC, lN, mE, mV, mC, mN, mTup, mLst, Tg.put, tgPuts, D.fz, fzs, D.clean, cleans, frz, fzAt, le_size, lt_size, gLt_val, gGt_val, gLe_val, gGe_val, gSub_val, gNe_int, gEq_int, gEq_qd, gNe_qd, gAdd, gNeg, gGcd, gTup, gLst, gIx_tup, gIx_lst, gIx_scr, gIx_q0, gIx_q1, num_neg, num_zero, gNe_bl, gEq_bl, gIsN_qd, gNotN_qd, gInt, gAbs, atI, ixN, h7, rc_fz, tl_fz, h6, hs, m4, lo, mv, la, c1, l1, l2, lt_size hL]
    · have la := are_false T' k
      refine ⟨L, some (.lst true [.lst true [qd (x0 - s), qd (x1 + s), qd (x2 + s), qd (x3 - s)], .lst true [qd y0, qd y1, qd y2, qd y3]]), e17, .inl rfl, ?_⟩
      unfold tl at la
      unfold B_law_2
      simp [mMeth, gAppend, keysOf, getP, pathL, putP, eLc2, lcL2, sFor, forL, giSeq, giRng1, giRng2, giEnum, seqOf, eLc, lcL, wipeE, cYes, gLen, gAll, blsOf, sRaise, fz_qd, cln_qd, qd0, qd1, gNe_str, gEq_str, gIsN_non, gIsN_tup, gIsN_lst, gNotN_non, gNotN_tup, gNotN_lst, runF, sSeq, sIf, sNx, sPar, sSet, sAsg, sRet, sDrop, eA, eF, eC, eV, eOr, eAnd, eNot, eIf, lC, lN, mE, mV, mC, mN, mTup, mLst, Tg.put, tgPuts, D.fz, fzs, D.clean, cleans, frz, fzAt, le_size, lt_size, gLt_val, gGt_val, gLe_val, gGe_val, gSub_val, gNe_int, gEq_int, gEq_qd, gNe_qd, gAdd, gNeg, gGcd, gTup, gLst, gIx_tup, gIx_lst, gIx_scr, gIx_q0, gIx_q1, num_neg, num_zero, gNe_bl, gEq_bl, gIsN_qd, gNotN_qd, gInt, gAbs, atI, ixN, h7, rc_fz, tl_fz, h6, hs, m4, lo, mv, la]
  · have mv := moved_val1 T (st.mono (by decide))
    have T' : Ts N x0 x1 x2 x3 (y0 - s) (y1 + s) (y2 + s) (y3 - s) := ⟨hN, n1, T.x0, T.x1, T.x2, T.x3, (V0.sub st).mono (by decide), (V1.add st).mono (by decide), (V2.add st).mono (by decide), (V3.sub st).mono (by decide)⟩
    by_cases k : okT a b c d z o x0 x1 x2 x3 (y0 - s) (y1 + s) (y2 + s) (y3 - s)
    · have la := are_true T' k
      have c1 := (chance_w G T' k j).1
      rw [qn_ne hw] at c1
      obtain ⟨⟨q1, q2⟩, q3, q4⟩ := between G k
      have V := Vw_sm (N := N) (x := x1) (y := y1 + s) (U1.mono (by decide)) ((V1.add st).mono (by decide)) j
      have l1 := l_less_val (sz_div hN n1 V (G.wS j) wp) (sz_div hN n1 (Vw_sm (sm_hz0 G.R) (sm_ho0 G.R) j) (G.wS j) wp)
      have l2 := l_less_val (sz_div hN n1 (Vw_sm (sm_hz1 G.R) (sm_ho1 G.R) j) (G.wS j) wp) (sz_div hN n1 V (G.wS j) wp)
      rw [decide_eq_false (div_mono wp (Vw_mono q1 q3 j))] at l1
      rw [decide_eq_false (div_mono wp (Vw_mono q2 q4 j))] at l2
      refine ⟨_, none, some (qd (Vw j x1 (y1 + s) / Ww a d j)), .inr ⟨.lst true [.lst true [qd x0, qd x1, qd x2, qd x3], .lst true [qd (y0 - s), qd (y1 + s), qd (y2 + s), qd (y3 - s)]], ⟨_, _, _, _, _, _, _, _, by simp [tl, D.fz, fzs, fz_qd], T'⟩, rfl⟩, ?_⟩
      unfold tl at la c1
      unfold B_law_2
      simp [mMeth, gAppend, keysOf, getP, pathL, putP, eLc2, lcL2, sFor, forL, giSeq, giRng1, giRng2, giEnum, seqOf, eLc, lcL, wipeE, cYes, gLen, gAll, blsOf, sRaise, fz_qd, cln_qd, qd0, qd1, gNe_str, gEq_str, gIsN_non, gIsN_tup, gIsN_lst, gNotN_non, gNotN_tup, gNotN_lst, runF, sSeq, sIf, sNx, sPar, sSet, sAsg, sRet, sDrop, eA, eF, eC, eV, eOr, eAnd, eNot, eIf, lC, lN, mE, mV, mC, mN, mTup, mLst, Tg.put, tgPuts, D.fz, fzs, D.clean, cleans, frz, fzAt, le_size, lt_size, gLt_val, gGt_val, gLe_val, gGe_val, gSub_val, gNe_int, gEq_int, gEq_qd, gNe_qd, gAdd, gNeg, gGcd, gTup, gLst, gIx_tup, gIx_lst, gIx_scr, gIx_q0, gIx_q1, num_neg, num_zero, gNe_bl, gEq_bl, gIsN_qd, gNotN_qd, gInt, gAbs, atI, ixN, h7, rc_fz, tl_fz, h6, hs, m4, lo, mv, la, c1, l1, l2, lt_size hL]
    · have la := are_false T' k
      refine ⟨L, some (.lst true [.lst true [qd x0, qd x1, qd x2, qd x3], .lst true [qd (y0 - s), qd (y1 + s), qd (y2 + s), qd (y3 - s)]]), e17, .inl rfl, ?_⟩
      unfold tl at la
      unfold B_law_2
      simp [mMeth, gAppend, keysOf, getP, pathL, putP, eLc2, lcL2, sFor, forL, giSeq, giRng1, giRng2, giEnum, seqOf, eLc, lcL, wipeE, cYes, gLen, gAll, blsOf, sRaise, fz_qd, cln_qd, qd0, qd1, gNe_str, gEq_str, gIsN_non, gIsN_tup, gIsN_lst, gNotN_non, gNotN_tup, gNotN_lst, runF, sSeq, sIf, sNx, sPar, sSet, sAsg, sRet, sDrop, eA, eF, eC, eV, eOr, eAnd, eNot, eIf, lC, lN, mE, mV, mC, mN, mTup, mLst, Tg.put, tgPuts, D.fz, fzs, D.clean, cleans, frz, fzAt, le_size, lt_size, gLt_val, gGt_val, gLe_val, gGe_val, gSub_val, gNe_int, gEq_int, gEq_qd, gNe_qd, gAdd, gNeg, gGcd, gTup, gLst, gIx_tup, gIx_lst, gIx_scr, gIx_q0, gIx_q1, num_neg, num_zero, gNe_bl, gEq_bl, gIsN_qd, gNotN_qd, gInt, gAbs, atI, ixN, h7, rc_fz, tl_fz, h6, hs, m4, lo, mv, la]
end
end DL

set_option Elab.async false
set_option linter.all false
set_option maxRecDepth 100000
set_option maxHeartbeats 2000000
namespace DL
open PySem PySem.Spec L2
open PyProof.Rows hiding St
/-- the lists, grown by at most n types -/
def Gr (N : Nat) (L L' : List D) (n : Nat) : Prop := (∀ e ∈ L', e ∈ L ∨ Ent N e) ∧ L'.length ≤ L.length + n
theorem Gr.refl {N : Nat} {L : List D} {n : Nat} : Gr N L L n := ⟨fun e h => .inl h, by omega⟩
theorem Gr.one {N : Nat} {L : List D} {n : Nat} {e : D} (h : Ent N e) (hn : 1 ≤ n) : Gr N L (L ++ [e]) n := by
  refine ⟨fun x hx => ?_, by simp; omega⟩
  rcases List.mem_append.mp hx with hx | hx
  · exact .inl hx
  · rw [List.mem_singleton] at hx; subst hx; exact .inr h
theorem Gr.trans {N : Nat} {L L1 L2 : List D} {n m : Nat} (h : Gr N L L1 n) (h' : Gr N L1 L2 m) : Gr N L L2 (n + m) := by
  refine ⟨fun e he => ?_, by have := h.2; have := h'.2; omega⟩
  rcases h'.1 e he with k | k
  · exact h.1 e k
  · exact .inr k
theorem Gr.mono {N : Nat} {L L1 : List D} {n m : Nat} (h : Gr N L L1 n) (k : n ≤ m) : Gr N L L1 m := ⟨h.1, by have := h.2; omega⟩
section
variable {N : Nat} {a b c d z o : Rat} {e0 e1 e2 e3 e4 e5 e6 e8 e10 e11 e12 e13 e14 e15 e16 e17 e18 e19 e20 e21 e22 : Option D} {r7 : D} {L : List D}
theorem put3 : Tg.put (.nm 3) = fun x y => some (List.set y 3 (some x)) := by funext x y; simp [Tg.put]
theorem put10 : Tg.put (.nm 10) = fun x y => some (List.set y 10 (some x)) := by funext x y; simp [Tg.put]
theorem put14 : Tg.put (.nm 14) = fun x y => some (List.set y 14 (some x)) := by funext x y; simp [Tg.put]
theorem put15 : Tg.put (.nm 15) = fun x y => some (List.set y 15 (some x)) := by funext x y; simp [Tg.put]
theorem put16 : Tg.put (.nm 16) = fun x y => some (List.set y 16 (some x)) := by funext x y; simp [Tg.put]
theorem put18 : Tg.put (.nm 18) = fun x y => some (List.set y 18 (some x)) := by funext x y; simp [Tg.put]
theorem b1_loop_non (G : Gd N a b c d z o) (h7 : r7.fz = rc a b c d z o) (j : Nat) (hw : Ww a d j = 0) :
    forL (Tg.put (.nm 3)) B_law_1 [.int 0, .int 1] [e0, e1, e2, e3, e4, e5, e6, some r7, e8, some (.lst true L), some (.str (Nw j)), e11, some .non, e13, e14, e15, e16, e17, e18, e19, e20, e21, e22] =
    .nx [e0, e1, e2, some (.int 1), e4, e5, e6, some r7, e8, some (.lst true L), some (.str (Nw j)), e11, some .non, some .non, e14, e15, e16, e17, e18, e19, e20, e21, e22] := by
  simp [forL, put3, b1_non G h7 j hw 0 (.inl rfl), b1_non G h7 j hw 1 (.inr rfl)]
theorem b1_loop_tup (G : Gd N a b c d z o) (h7 : r7.fz = rc a b c d z o) (j : Nat) (hw : Ww a d j ≠ 0) (hL : L.length + 2 < 1000) :
    ∃ L', Gr N L L' 2 ∧ forL (Tg.put (.nm 3)) B_law_1 [.int 0, .int 1] [e0, e1, e2, e3, e4, e5, e6, some r7, e8, some (.lst true L), some (.str (Nw j)), e11, some (.tup [qd (Vw j (hz0 b d o) (ho0 b d z) / Ww a d j), qd (Vw j (hz1 a d o) (ho1 b c d z) / Ww a d j)]), e13, e14, e15, e16, e17, e18, e19, e20, e21, e22] =
    .nx [e0, e1, e2, some (.int 1), e4, e5, e6, some r7, e8, some (.lst true L'), some (.str (Nw j)), e11, some (.tup [qd (Vw j (hz0 b d o) (ho0 b d z) / Ww a d j), qd (Vw j (hz1 a d o) (ho1 b c d z) / Ww a d j)]), none, e14, e15, e16, e17, e18, e19, e20, e21, e22] := by
  obtain ⟨u, hu, s1⟩ := b1_tup (e0 := e0) (e1 := e1) (e2 := e2) (e4 := e4) (e5 := e5) (e6 := e6) (e8 := e8) (e11 := e11) (e13 := e13) (e14 := e14) (e15 := e15) (e16 := e16) (e17 := e17) (e18 := e18) (e19 := e19) (e20 := e20) (e21 := e21) (e22 := e22) (L := L) G h7 j hw 0 (.inl rfl) (by omega)
  obtain ⟨v, hv, s2⟩ := b1_tup (e0 := e0) (e1 := e1) (e2 := e2) (e4 := e4) (e5 := e5) (e6 := e6) (e8 := e8) (e11 := e11) (e13 := none) (e14 := e14) (e15 := e15) (e16 := e16) (e17 := e17) (e18 := e18) (e19 := e19) (e20 := e20) (e21 := e21) (e22 := e22) (L := L ++ [u]) G h7 j hw 1 (.inr rfl) (by simp; omega)
  refine ⟨_, (Gr.one (n := 1) hu (by decide)).trans (Gr.one (n := 1) hv (by decide)), ?_⟩
  simp [forL, put3, s1]
  simp at s2
  rw [s2]
theorem b2_loop (G : Gd N a b c d z o) {x0 x1 x2 x3 y0 y1 y2 y3 : Rat} (T : Ts N x0 x1 x2 x3 y0 y1 y2 y3) (k0 : okT a b c d z o x0 x1 x2 x3 y0 y1 y2 y3)
    {P2 t6 : D} {S : Nat} (hS : N = 4 * S) (hs : gSum [P2.fz] = .val (.int (S : Int)))
    (h7 : r7.fz = rc a b c d z o) (h6 : t6.fz = tl x0 x1 x2 x3 y0 y1 y2 y3) (j : Nat) (hw : Ww a d j ≠ 0) (x : Int) (hx : x = 0 ∨ x = 1) : ∀ (ts : List Int) (ht : ∀ t ∈ ts, t.natAbs ≤ 4) (L : List D) (e15 e16 e17 : Option D) (hL : L.length + ts.length < 1000),
    ∃ L' e15' e16' e17', Gr N L L' ts.length ∧ forL (Tg.put (.nm 15)) B_law_2 (ts.map D.int) [e0, e1, some P2, e3, e4, e5, some t6, some r7, e8, some (.lst true L), some (.str (Nw j)), e11, some (.tup [qd (Vw j (hz0 b d o) (ho0 b d z) / Ww a d j), qd (Vw j (hz1 a d o) (ho1 b c d z) / Ww a d j)]), e13, some (.int x), e15, e16, e17, e18, e19, e20, e21, e22] =
    .nx [e0, e1, some P2, e3, e4, e5, some t6, some r7, e8, some (.lst true L'), some (.str (Nw j)), e11, some (.tup [qd (Vw j (hz0 b d o) (ho0 b d z) / Ww a d j), qd (Vw j (hz1 a d o) (ho1 b c d z) / Ww a d j)]), e13, some (.int x), e15', e16', e17', e18, e19, e20, e21, e22]
  | [], _, L, e15, e16, e17, _ => ⟨L, e15, e16, e17, Gr.refl, rfl⟩
  | t :: ts, ht, L, e15, e16, e17, hL => by
    rw [List.length_cons] at hL
    obtain ⟨L1, f16, f17, hL1, s1⟩ := b2_step (e0 := e0) (e1 := e1) (e3 := e3) (e4 := e4) (e5 := e5) (e8 := e8) (e11 := e11) (e13 := e13) (e16 := e16) (e17 := e17) (e18 := e18) (e19 := e19) (e20 := e20) (e21 := e21) (e22 := e22) (L := L) G T k0 hS hs h7 h6 j hw x hx t (ht t List.mem_cons_self) (by omega)
    have g1 : Gr N L L1 1 := by
      rcases hL1 with rfl | ⟨e, he, rfl⟩
      · exact Gr.refl
      · exact Gr.one he (by decide)
    obtain ⟨L', e15', e16', e17', g2, s2⟩ := b2_loop G T k0 hS hs h7 h6 j hw x hx ts (fun q hq => ht q (List.mem_cons_of_mem _ hq)) L1 (some (.int t)) f16 f17 (by have := g1.2; omega)
    refine ⟨L', e15', e16', e17', (g1.trans g2).mono (by simp; omega), ?_⟩
    rw [← s2, List.map_cons, forL]
    simp only [put15, List.set_cons_succ, List.set_cons_zero]
    rw [s1]
theorem rng9 : giRng2 [.int (-4), .int 5] = some (([-4, -3, -2, -1, 0, 1, 2, 3, 4] : List Int).map D.int) := rfl
theorem fzs_ints (ts : List Int) : fzs (ts.map D.int) = ts.map D.int := by rw [fzs_eq, List.map_map]; rfl
theorem b3_step (G : Gd N a b c d z o) {x0 x1 x2 x3 y0 y1 y2 y3 : Rat} (T : Ts N x0 x1 x2 x3 y0 y1 y2 y3) (k0 : okT a b c d z o x0 x1 x2 x3 y0 y1 y2 y3)
    {P2 t6 : D} {S : Nat} (hS : N = 4 * S) (hs : gSum [P2.fz] = .val (.int (S : Int)))
    (h7 : r7.fz = rc a b c d z o) (h6 : t6.fz = tl x0 x1 x2 x3 y0 y1 y2 y3) (j : Nat) (hw : Ww a d j ≠ 0) (x : Int) (hx : x = 0 ∨ x = 1) (hL : L.length + 9 < 1000) :
    ∃ L' e15' e16' e17', Gr N L L' 9 ∧ B_law_3 [e0, e1, some P2, e3, e4, e5, some t6, some r7, e8, some (.lst true L), some (.str (Nw j)), e11, some (.tup [qd (Vw j (hz0 b d o) (ho0 b d z) / Ww a d j), qd (Vw j (hz1 a d o) (ho1 b c d z) / Ww a d j)]), e13, some (.int x), e15, e16, e17, e18, e19, e20, e21, e22] =
    .nx [e0, e1, some P2, e3, e4, e5, some t6, some r7, e8, some (.lst true L'), some (.str (Nw j)), e11, some (.tup [qd (Vw j (hz0 b d o) (ho0 b d z) / Ww a d j), qd (Vw j (hz1 a d o) (ho1 b c d z) / Ww a d j)]), e13, some (.int x), e15', e16', e17', e18, e19, e20, e21, e22] := by
  obtain ⟨L', f15, f16, f17, g, s⟩ := b2_loop (e0 := e0) (e1 := e1) (e3 := e3) (e4 := e4) (e5 := e5) (e8 := e8) (e11 := e11) (e13 := e13) (e18 := e18) (e19 := e19) (e20 := e20) (e21 := e21) (e22 := e22) G T k0 hS hs h7 h6 j hw x hx [-4, -3, -2, -1, 0, 1, 2, 3, 4] (by decide) L e15 e16 e17 (by simpa using hL)
  refine ⟨L', f15, f16, f17, g, ?_⟩
  unfold B_law_3 sFor
  rw [← s]
  simp only [lC, lN, eA, eC, gNeg, rng9, fzs_ints, cleans, D.clean, Bool.and_true, if_true]
theorem b3_loop (G : Gd N a b c d z o) {x0 x1 x2 x3 y0 y1 y2 y3 : Rat} (T : Ts N x0 x1 x2 x3 y0 y1 y2 y3) (k0 : okT a b c d z o x0 x1 x2 x3 y0 y1 y2 y3)
    {P2 t6 : D} {S : Nat} (hS : N = 4 * S) (hs : gSum [P2.fz] = .val (.int (S : Int)))
    (h7 : r7.fz = rc a b c d z o) (h6 : t6.fz = tl x0 x1 x2 x3 y0 y1 y2 y3) (j : Nat) (hw : Ww a d j ≠ 0) (hL : L.length + 18 < 1000) :
    ∃ L' e15' e16' e17', Gr N L L' 18 ∧ forL (Tg.put (.nm 14)) B_law_3 [.int 0, .int 1] [e0, e1, some P2, e3, e4, e5, some t6, some r7, e8, some (.lst true L), some (.str (Nw j)), e11, some (.tup [qd (Vw j (hz0 b d o) (ho0 b d z) / Ww a d j), qd (Vw j (hz1 a d o) (ho1 b c d z) / Ww a d j)]), e13, e14, e15, e16, e17, e18, e19, e20, e21, e22] =
    .nx [e0, e1, some P2, e3, e4, e5, some t6, some r7, e8, some (.lst true L'), some (.str (Nw j)), e11, some (.tup [qd (Vw j (hz0 b d o) (ho0 b d z) / Ww a d j), qd (Vw j (hz1 a d o) (ho1 b c d z) / Ww a d j)]), e13, some (.int 1), e15', e16', e17', e18, e19, e20, e21, e22] := by
  obtain ⟨L1, f15, f16, f17, g1, s1⟩ := b3_step (e0 := e0) (e1 := e1) (e3 := e3) (e4 := e4) (e5 := e5) (e8 := e8) (e11 := e11) (e13 := e13) (e15 := e15) (e16 := e16) (e17 := e17) (e18 := e18) (e19 := e19) (e20 := e20) (e21 := e21) (e22 := e22) (L := L) G T k0 hS hs h7 h6 j hw 0 (.inl rfl) (by omega)
  obtain ⟨L2, h15, h16, h17, g2, s2⟩ := b3_step (e0 := e0) (e1 := e1) (e3 := e3) (e4 := e4) (e5 := e5) (e8 := e8) (e11 := e11) (e13 := e13) (e15 := f15) (e16 := f16) (e17 := f17) (e18 := e18) (e19 := e19) (e20 := e20) (e21 := e21) (e22 := e22) (L := L1) G T k0 hS hs h7 h6 j hw 1 (.inr rfl) (by have := g1.2; omega)
  refine ⟨L2, h15, h16, h17, (g1.trans g2), ?_⟩
  rw [forL]
  simp only [put14, List.set_cons_succ, List.set_cons_zero]
  rw [s1]
  show forL _ B_law_3 [.int 1] _ = _
  rw [forL]
  simp only [List.set_cons_succ, List.set_cons_zero]
  rw [s2]
  rfl
theorem rng2 : fzs ((List.range 2).map fun (i : Nat) => D.int (i : Int)) = [.int 0, .int 1] := rfl
theorem b4_step (G : Gd N a b c d z o) {x0 x1 x2 x3 y0 y1 y2 y3 : Rat} (T : Ts N x0 x1 x2 x3 y0 y1 y2 y3) (k0 : okT a b c d z o x0 x1 x2 x3 y0 y1 y2 y3)
    {P2 t6 : D} {S : Nat} (hS : N = 4 * S) (hs : gSum [P2.fz] = .val (.int (S : Int)))
    (h7 : r7.fz = rc a b c d z o) (h6 : t6.fz = tl x0 x1 x2 x3 y0 y1 y2 y3) (j : Nat) (hL : L.length + 20 < 1000) :
    ∃ L' e3' e11' e12' e13' e14' e15' e16' e17', Gr N L L' 20 ∧ B_law_4 [e0, e1, some P2, e3, e4, e5, some t6, some r7, e8, some (.lst true L), some (.str (Nw j)), e11, e12, e13, e14, e15, e16, e17, e18, e19, e20, e21, e22] =
    .nx [e0, e1, some P2, e3', e4, e5, some t6, some r7, e8, some (.lst true L'), some (.str (Nw j)), e11', e12', e13', e14', e15', e16', e17', e18, e19, e20, e21, e22] := by
  have c1 := (chance_w G T k0 j).1
  by_cases hw : Ww a d j = 0
  · have s1 := b1_loop_non (e0 := e0) (e1 := e1) (e2 := some P2) (e3 := e3) (e4 := e4) (e5 := e5) (e6 := some t6) (e8 := e8) (e11 := some .non) (e13 := e13) (e14 := e14) (e15 := e15) (e16 := e16) (e17 := e17) (e18 := e18) (e19 := e19) (e20 := e20) (e21 := e21) (e22 := e22) (L := L) G h7 j hw
    have en : F_ends [rc a b c d z o, .str (Nw j)] = .val .non := ends_val G.chk (ends_n G j hw)
    rw [qn_eq hw] at c1
    rw [put3] at s1
    refine ⟨L, some (.int 1), some .non, some .non, some .non, e14, e15, e16, e17, Gr.refl, ?_⟩
    unfold B_law_4
    simp [mMeth, gAppend, keysOf, getP, pathL, putP, eLc2, lcL2, sFor, giSeq, giRng1, giRng2, giEnum, seqOf, eLc, lcL, wipeE, cYes, gLen, gAll, blsOf, sRaise, fz_qd, cln_qd, qd0, qd1, gNe_str, gEq_str, gIsN_non, gIsN_tup, gIsN_lst, gNotN_non, gNotN_tup, gNotN_lst, runF, sSeq, sIf, sNx, sPar, sSet, sAsg, sRet, sDrop, eA, eF, eC, eV, eOr, eAnd, eNot, eIf, lC, lN, mE, mV, mC, mN, mTup, mLst, Tg.put, tgPuts, D.fz, fzs, D.clean, cleans, frz, fzAt, le_size, lt_size, gLt_val, gGt_val, gLe_val, gGe_val, gSub_val, gNe_int, gEq_int, gEq_qd, gNe_qd, gAdd, gNeg, gGcd, gTup, gLst, gIx_tup, gIx_lst, gIx_scr, gIx_q0, gIx_q1, num_neg, num_zero, gNe_bl, gEq_bl, gIsN_qd, gNotN_qd, gInt, gAbs, atI, ixN, h7, h6, rc_fz, tl_fz, c1, en, rng2, put3, s1]
  · obtain ⟨L1, g1, s1⟩ := b1_loop_tup (e0 := e0) (e1 := e1) (e2 := some P2) (e3 := e3) (e4 := e4) (e5 := e5) (e6 := some t6) (e8 := e8) (e11 := some (qd (Vw j x1 y1 / Ww a d j))) (e13 := e13) (e14 := e14) (e15 := e15) (e16 := e16) (e17 := e17) (e18 := e18) (e19 := e19) (e20 := e20) (e21 := e21) (e22 := e22) (L := L) G h7 j hw (by omega)
    obtain ⟨L2, f15, f16, f17, g2, s2⟩ := b3_loop (e0 := e0) (e1 := e1) (e3 := some (.int 1)) (e4 := e4) (e5 := e5) (e8 := e8) (e11 := some (qd (Vw j x1 y1 / Ww a d j))) (e13 := none) (e14 := e14) (e15 := e15) (e16 := e16) (e17 := e17) (e18 := e18) (e19 := e19) (e20 := e20) (e21 := e21) (e22 := e22) (L := L1) G T k0 hS hs h7 h6 j hw (by have := g1.2; omega)
    have en : F_ends [rc a b c d z o, .str (Nw j)] = _ := ends_val G.chk (ends_t G j hw)
    rw [qn_ne hw] at c1
    rw [put3] at s1
    rw [put14] at s2
    have hN := G.R.n0
    have n1 := G.R.n1
    have wp : 0 < Ww a d j := by have := G.w0 j; grind
    obtain ⟨⟨q1, q2⟩, q3, q4⟩ := between G k0
    have V := Vw_sm (N := N) (x := x1) (y := y1) (T.x1.mono (by decide)) (T.y1.mono (by decide)) j
    have l1 := l_less_val (sz_div hN n1 V (G.wS j) wp) (sz_div hN n1 (Vw_sm (sm_hz0 G.R) (sm_ho0 G.R) j) (G.wS j) wp)
    have l2 := l_less_val (sz_div hN n1 (Vw_sm (sm_hz1 G.R) (sm_ho1 G.R) j) (G.wS j) wp) (sz_div hN n1 V (G.wS j) wp)
    rw [decide_eq_false (div_mono wp (Vw_mono q1 q3 j))] at l1
    rw [decide_eq_false (div_mono wp (Vw_mono q2 q4 j))] at l2
    refine ⟨L2, some (.int 1), some (qd (Vw j x1 y1 / Ww a d j)), some (.tup [qd (Vw j (hz0 b d o) (ho0 b d z) / Ww a d j), qd (Vw j (hz1 a d o) (ho1 b c d z) / Ww a d j)]), none, some (.int 1), f15, f16, f17, g1.trans g2, ?_⟩
    unfold B_law_4
    simp [mMeth, gAppend, keysOf, getP, pathL, putP, eLc2, lcL2, sFor, giSeq, giRng1, giRng2, giEnum, seqOf, eLc, lcL, wipeE, cYes, gLen, gAll, blsOf, sRaise, fz_qd, cln_qd, qd0, qd1, gNe_str, gEq_str, gIsN_non, gIsN_tup, gIsN_lst, gNotN_non, gNotN_tup, gNotN_lst, runF, sSeq, sIf, sNx, sPar, sSet, sAsg, sRet, sDrop, eA, eF, eC, eV, eOr, eAnd, eNot, eIf, lC, lN, mE, mV, mC, mN, mTup, mLst, Tg.put, tgPuts, D.fz, fzs, D.clean, cleans, frz, fzAt, le_size, lt_size, gLt_val, gGt_val, gLe_val, gGe_val, gSub_val, gNe_int, gEq_int, gEq_qd, gNe_qd, gAdd, gNeg, gGcd, gTup, gLst, gIx_tup, gIx_lst, gIx_scr, gIx_q0, gIx_q1, num_neg, num_zero, gNe_bl, gEq_bl, gIsN_qd, gNotN_qd, gInt, gAbs, atI, ixN, h7, h6, rc_fz, tl_fz, c1, en, rng2, put3, put14, s1, s2, l1, l2]
theorem b4_loop (G : Gd N a b c d z o) {x0 x1 x2 x3 y0 y1 y2 y3 : Rat} (T : Ts N x0 x1 x2 x3 y0 y1 y2 y3) (k0 : okT a b c d z o x0 x1 x2 x3 y0 y1 y2 y3)
    {P2 t6 : D} {S : Nat} (hS : N = 4 * S) (hs : gSum [P2.fz] = .val (.int (S : Int)))
    (h7 : r7.fz = rc a b c d z o) (h6 : t6.fz = tl x0 x1 x2 x3 y0 y1 y2 y3) : ∀ (js : List Nat) (L : List D) (e3 e10 e11 e12 e13 e14 e15 e16 e17 : Option D) (hL : L.length + 20 * js.length < 1000),
    ∃ L' e3' e10' e11' e12' e13' e14' e15' e16' e17', Gr N L L' (20 * js.length) ∧ forL (Tg.put (.nm 10)) B_law_4 (js.map fun j => .str (Nw j)) [e0, e1, some P2, e3, e4, e5, some t6, some r7, e8, some (.lst true L), e10, e11, e12, e13, e14, e15, e16, e17, e18, e19, e20, e21, e22] =
    .nx [e0, e1, some P2, e3', e4, e5, some t6, some r7, e8, some (.lst true L'), e10', e11', e12', e13', e14', e15', e16', e17', e18, e19, e20, e21, e22]
  | [], L, e3, e10, e11, e12, e13, e14, e15, e16, e17, _ => ⟨L, e3, e10, e11, e12, e13, e14, e15, e16, e17, Gr.refl, rfl⟩
  | j :: js, L, e3, e10, e11, e12, e13, e14, e15, e16, e17, hL => by
    rw [List.length_cons] at hL
    obtain ⟨L1, f3, f11, f12, f13, f14, f15, f16, f17, g1, s1⟩ := b4_step (e0 := e0) (e1 := e1) (e3 := e3) (e4 := e4) (e5 := e5) (e8 := e8) (e11 := e11) (e12 := e12) (e13 := e13) (e14 := e14) (e15 := e15) (e16 := e16) (e17 := e17) (e18 := e18) (e19 := e19) (e20 := e20) (e21 := e21) (e22 := e22) (L := L) G T k0 hS hs h7 h6 j (by omega)
    obtain ⟨L2, h3, h10, h11, h12, h13, h14, h15, h16, h17, g2, s2⟩ := b4_loop G T k0 hS hs h7 h6 js L1 f3 (some (.str (Nw j))) f11 f12 f13 f14 f15 f16 f17 (by have := g1.2; omega)
    refine ⟨L2, h3, h10, h11, h12, h13, h14, h15, h16, h17, (g1.trans g2).mono (by simp; omega), ?_⟩
    rw [← s2, List.map_cons, forL]
    simp only [put10, List.set_cons_succ, List.set_cons_zero]
    rw [s1]
end
end DL

set_option Elab.async false
set_option linter.all false
set_option maxRecDepth 100000
set_option maxHeartbeats 2000000
namespace DL
open PySem PySem.Spec L2
open PyProof.Rows hiding St
/-- an entry of the lists at the end -/
def Ent2 (N : Nat) (e : D) : Prop := Ent N e ∨ (∃ x0 x1 x2 x3 : Rat, e.fz = .lst false [.lst false [qd x0, qd x1, qd x2, qd x3]]) ∨ ∃ x0 x1 x2 x3 y1 y2 y3 : Rat, e.fz = .lst false [.lst false [qd x0, qd x1, qd x2, qd x3], .lst false [qd y1, qd y2, qd y3]]
section
variable {N : Nat} {a b c d z o : Rat} {e0 e1 e2 e3 e4 e5 e6 e8 e9 e10 e11 e12 e13 e14 e15 e16 e17 e18 e19 e20 e21 e22 : Option D} {r7 : D}
theorem odd1 (G : Gd N a b c d z o) (x0 x1 x2 x3 : Rat) : F_are_types [rc a b c d z o, .lst false [.lst false [qd x0, qd x1, qd x2, qd x3]]] = .val (.bl false) ∧ F_l_are_types [rc a b c d z o, .lst false [.lst false [qd x0, qd x1, qd x2, qd x3]]] = .val (.bl false) := by
  have h := G.chk
  unfold rc at *
  constructor
  · unfold F_are_types G_are_types
    simp [mMeth, gAppend, keysOf, getP, pathL, putP, eLc2, lcL2, sFor, forL, giSeq, giRng1, giRng2, giEnum, seqOf, eLc, lcL, wipeE, cYes, gLen, gAll, blsOf, sRaise, fz_qd, cln_qd, qd0, qd1, gNe_str, gEq_str, gIsN_non, gIsN_tup, gIsN_lst, gNotN_non, gNotN_tup, gNotN_lst, runF, sSeq, sIf, sNx, sPar, sSet, sAsg, sRet, sDrop, eA, eF, eC, eV, eOr, eAnd, eNot, eIf, lC, lN, mE, mV, mC, mN, mTup, mLst, Tg.put, tgPuts, D.fz, fzs, D.clean, cleans, frz, fzAt, le_size, lt_size, gLt_val, gGt_val, gLe_val, gGe_val, gSub_val, gNe_int, gEq_int, gEq_qd, gNe_qd, gAdd, gNeg, gGcd, gTup, gLst, gIx_tup, gIx_lst, gIx_scr, gIx_q0, gIx_q1, num_neg, num_zero, gNe_bl, gEq_bl, gIsN_qd, gNotN_qd, gInt, gAbs, atI, ixN, h]
  · unfold F_l_are_types G_l_are_types
    simp [mMeth, gAppend, keysOf, getP, pathL, putP, eLc2, lcL2, sFor, forL, giSeq, giRng1, giRng2, giEnum, seqOf, eLc, lcL, wipeE, cYes, gLen, gAll, blsOf, sRaise, fz_qd, cln_qd, qd0, qd1, gNe_str, gEq_str, gIsN_non, gIsN_tup, gIsN_lst, gNotN_non, gNotN_tup, gNotN_lst, runF, sSeq, sIf, sNx, sPar, sSet, sAsg, sRet, sDrop, eA, eF, eC, eV, eOr, eAnd, eNot, eIf, lC, lN, mE, mV, mC, mN, mTup, mLst, Tg.put, tgPuts, D.fz, fzs, D.clean, cleans, frz, fzAt, le_size, lt_size, gLt_val, gGt_val, gLe_val, gGe_val, gSub_val, gNe_int, gEq_int, gEq_qd, gNe_qd, gAdd, gNeg, gGcd, gTup, gLst, gIx_tup, gIx_lst, gIx_scr, gIx_q0, gIx_q1, num_neg, num_zero, gNe_bl, gEq_bl, gIsN_qd, gNotN_qd, gInt, gAbs, atI, ixN]
theorem odd2 (G : Gd N a b c d z o) (x0 x1 x2 x3 y1 y2 y3 : Rat) : F_are_types [rc a b c d z o, .lst false [.lst false [qd x0, qd x1, qd x2, qd x3], .lst false [qd y1, qd y2, qd y3]]] = .val (.bl false) ∧ F_l_are_types [rc a b c d z o, .lst false [.lst false [qd x0, qd x1, qd x2, qd x3], .lst false [qd y1, qd y2, qd y3]]] = .val (.bl false) := by
  have h := G.chk
  unfold rc at *
  constructor
  · unfold F_are_types G_are_types
    simp [mMeth, gAppend, keysOf, getP, pathL, putP, eLc2, lcL2, sFor, forL, giSeq, giRng1, giRng2, giEnum, seqOf, eLc, lcL, wipeE, cYes, gLen, gAll, blsOf, sRaise, fz_qd, cln_qd, qd0, qd1, gNe_str, gEq_str, gIsN_non, gIsN_tup, gIsN_lst, gNotN_non, gNotN_tup, gNotN_lst, runF, sSeq, sIf, sNx, sPar, sSet, sAsg, sRet, sDrop, eA, eF, eC, eV, eOr, eAnd, eNot, eIf, lC, lN, mE, mV, mC, mN, mTup, mLst, Tg.put, tgPuts, D.fz, fzs, D.clean, cleans, frz, fzAt, le_size, lt_size, gLt_val, gGt_val, gLe_val, gGe_val, gSub_val, gNe_int, gEq_int, gEq_qd, gNe_qd, gAdd, gNeg, gGcd, gTup, gLst, gIx_tup, gIx_lst, gIx_scr, gIx_q0, gIx_q1, num_neg, num_zero, gNe_bl, gEq_bl, gIsN_qd, gNotN_qd, gInt, gAbs, atI, ixN, h]
  · unfold F_l_are_types G_l_are_types
    simp [mMeth, gAppend, keysOf, getP, pathL, putP, eLc2, lcL2, sFor, forL, giSeq, giRng1, giRng2, giEnum, seqOf, eLc, lcL, wipeE, cYes, gLen, gAll, blsOf, sRaise, fz_qd, cln_qd, qd0, qd1, gNe_str, gEq_str, gIsN_non, gIsN_tup, gIsN_lst, gNotN_non, gNotN_tup, gNotN_lst, runF, sSeq, sIf, sNx, sPar, sSet, sAsg, sRet, sDrop, eA, eF, eC, eV, eOr, eAnd, eNot, eIf, lC, lN, mE, mV, mC, mN, mTup, mLst, Tg.put, tgPuts, D.fz, fzs, D.clean, cleans, frz, fzAt, le_size, lt_size, gLt_val, gGt_val, gLe_val, gGe_val, gSub_val, gNe_int, gEq_int, gEq_qd, gNe_qd, gAdd, gNeg, gGcd, gTup, gLst, gIx_tup, gIx_lst, gIx_scr, gIx_q0, gIx_q1, num_neg, num_zero, gNe_bl, gEq_bl, gIsN_qd, gNotN_qd, gInt, gAbs, atI, ixN, gNe_ii]
theorem b5_step (G : Gd N a b c d z o) (h7 : r7.fz = rc a b c d z o) {e : D} (he : Ent2 N e) :
    B_law_5 [e0, e1, e2, e3, e4, e5, e6, some r7, e8, e9, e10, e11, e12, e13, e14, e15, e16, e17, some e.fz, e19, e20, e21, e22] = .nx [e0, e1, e2, e3, e4, e5, e6, some r7, e8, e9, e10, e11, e12, e13, e14, e15, e16, e17, some e.fz, e19, e20, e21, e22] := by
  rcases he with ⟨x0, x1, x2, x3, y0, y1, y2, y3, h, T⟩ | ⟨x0, x1, x2, x3, h⟩ | ⟨x0, x1, x2, x3, y1, y2, y3, h⟩
  · have v1 := are_val (a := a) (b := b) (c := c) (d := d) (z := z) (o := o) T G.chk
    have v2 := l_are_val (a := a) (b := b) (c := c) (d := d) (z := z) (o := o) T
    rw [h]
    unfold tl at *
    unfold B_law_5
    simp [mMeth, gAppend, keysOf, getP, pathL, putP, eLc2, lcL2, sFor, forL, giSeq, giRng1, giRng2, giEnum, seqOf, eLc, lcL, wipeE, cYes, gLen, gAll, blsOf, sRaise, fz_qd, cln_qd, qd0, qd1, gNe_str, gEq_str, gIsN_non, gIsN_tup, gIsN_lst, gNotN_non, gNotN_tup, gNotN_lst, runF, sSeq, sIf, sNx, sPar, sSet, sAsg, sRet, sDrop, eA, eF, eC, eV, eOr, eAnd, eNot, eIf, lC, lN, mE, mV, mC, mN, mTup, mLst, Tg.put, tgPuts, D.fz, fzs, D.clean, cleans, frz, fzAt, le_size, lt_size, gLt_val, gGt_val, gLe_val, gGe_val, gSub_val, gNe_int, gEq_int, gEq_qd, gNe_qd, gAdd, gNeg, gGcd, gTup, gLst, gIx_tup, gIx_lst, gIx_scr, gIx_q0, gIx_q1, num_neg, num_zero, gNe_bl, gEq_bl, gIsN_qd, gNotN_qd, gInt, gAbs, atI, ixN, h7, rc_fz, v1, v2, gList, gRepr_bl]
  · obtain ⟨v1, v2⟩ := odd1 G x0 x1 x2 x3
    rw [h]
    unfold B_law_5
    simp [mMeth, gAppend, keysOf, getP, pathL, putP, eLc2, lcL2, sFor, forL, giSeq, giRng1, giRng2, giEnum, seqOf, eLc, lcL, wipeE, cYes, gLen, gAll, blsOf, sRaise, fz_qd, cln_qd, qd0, qd1, gNe_str, gEq_str, gIsN_non, gIsN_tup, gIsN_lst, gNotN_non, gNotN_tup, gNotN_lst, runF, sSeq, sIf, sNx, sPar, sSet, sAsg, sRet, sDrop, eA, eF, eC, eV, eOr, eAnd, eNot, eIf, lC, lN, mE, mV, mC, mN, mTup, mLst, Tg.put, tgPuts, D.fz, fzs, D.clean, cleans, frz, fzAt, le_size, lt_size, gLt_val, gGt_val, gLe_val, gGe_val, gSub_val, gNe_int, gEq_int, gEq_qd, gNe_qd, gAdd, gNeg, gGcd, gTup, gLst, gIx_tup, gIx_lst, gIx_scr, gIx_q0, gIx_q1, num_neg, num_zero, gNe_bl, gEq_bl, gIsN_qd, gNotN_qd, gInt, gAbs, atI, ixN, h7, rc_fz, v1, v2, gList, gRepr_bl]
  · obtain ⟨v1, v2⟩ := odd2 G x0 x1 x2 x3 y1 y2 y3
    rw [h]
    unfold B_law_5
    simp [mMeth, gAppend, keysOf, getP, pathL, putP, eLc2, lcL2, sFor, forL, giSeq, giRng1, giRng2, giEnum, seqOf, eLc, lcL, wipeE, cYes, gLen, gAll, blsOf, sRaise, fz_qd, cln_qd, qd0, qd1, gNe_str, gEq_str, gIsN_non, gIsN_tup, gIsN_lst, gNotN_non, gNotN_tup, gNotN_lst, runF, sSeq, sIf, sNx, sPar, sSet, sAsg, sRet, sDrop, eA, eF, eC, eV, eOr, eAnd, eNot, eIf, lC, lN, mE, mV, mC, mN, mTup, mLst, Tg.put, tgPuts, D.fz, fzs, D.clean, cleans, frz, fzAt, le_size, lt_size, gLt_val, gGt_val, gLe_val, gGe_val, gSub_val, gNe_int, gEq_int, gEq_qd, gNe_qd, gAdd, gNeg, gGcd, gTup, gLst, gIx_tup, gIx_lst, gIx_scr, gIx_q0, gIx_q1, num_neg, num_zero, gNe_bl, gEq_bl, gIsN_qd, gNotN_qd, gInt, gAbs, atI, ixN, h7, rc_fz, v1, v2, gList, gRepr_bl]
theorem b5_loop (G : Gd N a b c d z o) (h7 : r7.fz = rc a b c d z o) : ∀ (es : List D) (he : ∀ e ∈ es, Ent2 N e) (e18 : Option D), ∃ e18', forL (Tg.put (.nm 18)) B_law_5 (fzs es)
    [e0, e1, e2, e3, e4, e5, e6, some r7, e8, e9, e10, e11, e12, e13, e14, e15, e16, e17, e18, e19, e20, e21, e22] = .nx [e0, e1, e2, e3, e4, e5, e6, some r7, e8, e9, e10, e11, e12, e13, e14, e15, e16, e17, e18', e19, e20, e21, e22]
  | [], _, e18 => ⟨e18, rfl⟩
  | e :: es, he, e18 => by
    obtain ⟨e18', s⟩ := b5_loop G h7 es (fun q hq => he q (List.mem_cons_of_mem _ hq)) (some e.fz)
    refine ⟨e18', ?_⟩
    rw [fzs, forL, ← s]
    simp only [put18, List.set_cons_succ, List.set_cons_zero]
    rw [b5_step G h7 (he e List.mem_cons_self)]
theorem chance_t {r : Rat} (h : Sz r) (i : in01 r) : F_is_chance [qd r] = .val (.bl true) := by
  rw [is_chance_val h]; congr 2; exact decide_eq_true i
theorem bad_of {r : D} {y : D} (h : F_ends [r.fz, .str "both"] = .exc "BadRecord" 0) (hr : r.fz = y) (hy : y = r) : F_l_word [y] = .val (.tup [.str "record", .int 0]) := by
  subst hy
  rw [hr] at h
  unfold F_l_word G_l_word sTry
  simp [mMeth, gAppend, keysOf, getP, pathL, putP, eLc2, lcL2, sFor, forL, giSeq, giRng1, giRng2, giEnum, seqOf, eLc, lcL, wipeE, cYes, gLen, gAll, blsOf, sRaise, fz_qd, cln_qd, qd0, qd1, gNe_str, gEq_str, gIsN_non, gIsN_tup, gIsN_lst, gNotN_non, gNotN_tup, gNotN_lst, runF, sSeq, sIf, sNx, sPar, sSet, sAsg, sRet, sDrop, eA, eF, eC, eV, eOr, eAnd, eNot, eIf, lC, lN, mE, mV, mC, mN, mTup, mLst, Tg.put, tgPuts, D.fz, fzs, D.clean, cleans, frz, fzAt, le_size, lt_size, gLt_val, gGt_val, gLe_val, gGe_val, gSub_val, gNe_int, gEq_int, gEq_qd, gNe_qd, gAdd, gNeg, gGcd, gTup, gLst, gIx_tup, gIx_lst, gIx_scr, gIx_q0, gIx_q1, num_neg, num_zero, gNe_bl, gEq_bl, gIsN_qd, gNotN_qd, gInt, gAbs, atI, ixN, hr, h, tb_l_word_1]
theorem lk_unf : tb_l_word_1.lookup ("Unfit" : Str) = some (some 1) := by decide +kernel
theorem unf_of {r : D} {y : D} (h : F_ends [r.fz, .str "both"] = .exc "Unfit" 0) (hr : r.fz = y) (hy : y = r) : F_l_word [y] = .val (.tup [.str "unfit", .int 0]) := by
  subst hy
  rw [hr] at h
  unfold F_l_word G_l_word sTry
  simp [mMeth, gAppend, keysOf, getP, pathL, putP, eLc2, lcL2, sFor, forL, giSeq, giRng1, giRng2, giEnum, seqOf, eLc, lcL, wipeE, cYes, gLen, gAll, blsOf, sRaise, fz_qd, cln_qd, qd0, qd1, gNe_str, gEq_str, gIsN_non, gIsN_tup, gIsN_lst, gNotN_non, gNotN_tup, gNotN_lst, runF, sSeq, sIf, sNx, sPar, sSet, sAsg, sRet, sDrop, eA, eF, eC, eV, eOr, eAnd, eNot, eIf, lC, lN, mE, mV, mC, mN, mTup, mLst, Tg.put, tgPuts, D.fz, fzs, D.clean, cleans, frz, fzAt, le_size, lt_size, gLt_val, gGt_val, gLe_val, gGe_val, gSub_val, gNe_int, gEq_int, gEq_qd, gNe_qd, gAdd, gNeg, gGcd, gTup, gLst, gIx_tup, gIx_lst, gIx_scr, gIx_q0, gIx_q1, num_neg, num_zero, gNe_bl, gEq_bl, gIsN_qd, gNotN_qd, gInt, gAbs, atI, ixN, hr, h, lk_unf]
theorem ends_exc {r : D} {w x : Str} {n : Int} (hr : r.fz = r) (h : F_check_record [r] = .exc x n) : F_ends [r, .str w] = .exc x n := by
  unfold F_ends G_ends
  simp [mMeth, gAppend, keysOf, getP, pathL, putP, eLc2, lcL2, sFor, forL, giSeq, giRng1, giRng2, giEnum, seqOf, eLc, lcL, wipeE, cYes, gLen, gAll, blsOf, sRaise, fz_qd, cln_qd, qd0, qd1, gNe_str, gEq_str, gIsN_non, gIsN_tup, gIsN_lst, gNotN_non, gNotN_tup, gNotN_lst, runF, sSeq, sIf, sNx, sPar, sSet, sAsg, sRet, sDrop, eA, eF, eC, eV, eOr, eAnd, eNot, eIf, lC, lN, mE, mV, mC, mN, mTup, mLst, Tg.put, tgPuts, D.fz, fzs, D.clean, cleans, frz, fzAt, le_size, lt_size, gLt_val, gGt_val, gLe_val, gGe_val, gSub_val, gNe_int, gEq_int, gEq_qd, gNe_qd, gAdd, gNeg, gGcd, gTup, gLst, gIx_tup, gIx_lst, gIx_scr, gIx_q0, gIx_q1, num_neg, num_zero, gNe_bl, gEq_bl, gIsN_qd, gNotN_qd, gInt, gAbs, atI, ixN, hr, h]
theorem word_bad {r : D} (hr : r.fz = r) (h : F_check_record [r] = .exc "BadRecord" 0) : F_l_word [r] = .val (.tup [.str "record", .int 0]) :=
  bad_of (by rw [hr]; exact ends_exc hr h) hr rfl
theorem word_unf {r : D} (hr : r.fz = r) (h : F_check_record [r] = .exc "Unfit" 0) : F_l_word [r] = .val (.tup [.str "unfit", .int 0]) :=
  unf_of (by rw [hr]; exact ends_exc hr h) hr rfl
theorem bad1 : F_l_word [.tup [.lst false [.lst false [qd a, qd b]], qd z, qd o]] = .val (.tup [.str "record", .int 0]) := by
  refine word_bad (by simp [D.fz, fzs, fz_qd]) ?_
  unfold F_check_record G_check_record
  simp [mMeth, gAppend, keysOf, getP, pathL, putP, eLc2, lcL2, sFor, forL, giSeq, giRng1, giRng2, giEnum, seqOf, eLc, lcL, wipeE, cYes, gLen, gAll, blsOf, sRaise, fz_qd, cln_qd, qd0, qd1, gNe_str, gEq_str, gIsN_non, gIsN_tup, gIsN_lst, gNotN_non, gNotN_tup, gNotN_lst, runF, sSeq, sIf, sNx, sPar, sSet, sAsg, sRet, sDrop, eA, eF, eC, eV, eOr, eAnd, eNot, eIf, lC, lN, mE, mV, mC, mN, mTup, mLst, Tg.put, tgPuts, D.fz, fzs, D.clean, cleans, frz, fzAt, le_size, lt_size, gLt_val, gGt_val, gLe_val, gGe_val, gSub_val, gNe_int, gEq_int, gEq_qd, gNe_qd, gAdd, gNeg, gGcd, gTup, gLst, gIx_tup, gIx_lst, gIx_scr, gIx_q0, gIx_q1, num_neg, num_zero, gNe_bl, gEq_bl, gIsN_qd, gNotN_qd, gInt, gAbs, atI, ixN]
theorem q24 : F_is_chance [.tup [.int 2, .int 4]] = .val (.bl false) := by
  unfold F_is_chance G_is_chance F_is_fraction G_is_fraction
  simp [mMeth, gAppend, keysOf, getP, pathL, putP, eLc2, lcL2, sFor, forL, giSeq, giRng1, giRng2, giEnum, seqOf, eLc, lcL, wipeE, cYes, gLen, gAll, blsOf, sRaise, gNe_str, gEq_str, gIsN_non, gIsN_tup, gIsN_lst, gNotN_non, gNotN_tup, gNotN_lst, runF, sSeq, sIf, sNx, sPar, sSet, sAsg, sRet, sDrop, eA, eF, eC, eV, eOr, eAnd, eNot, eIf, lC, lN, mE, mV, mC, mN, mTup, mLst, Tg.put, tgPuts, D.fz, fzs, D.clean, cleans, frz, fzAt, le_size, lt_size, gLt_val, gGt_val, gLe_val, gGe_val, gSub_val, gNe_int, gEq_int, gEq_qd, gNe_qd, gAdd, gNeg, gGcd, gTup, gLst, gIx, gNe_bl, gEq_bl, gIsN_qd, gNotN_qd, gInt, gAbs, atI, ixN, runF]
theorem qhalf : D.tup [.int 1, .int 2] = qd (1 / 2) := by
  have h1 : ((1 : Rat) / 2).num = 1 := by decide +kernel
  have h2 : ((1 : Rat) / 2).den = 2 := by decide +kernel
  simp [qd, h1, h2]
theorem q32 : D.tup [.int 3, .int 2] = qd (3 / 2) := by
  have h1 : ((3 : Rat) / 2).num = 3 := by decide +kernel
  have h2 : ((3 : Rat) / 2).den = 2 := by decide +kernel
  simp [qd, h1, h2]
theorem qm12 : D.tup [.int (-1), .int 2] = qd (-1 / 2) := by
  have h1 : ((-1 : Rat) / 2).num = -1 := by decide +kernel
  have h2 : ((-1 : Rat) / 2).den = 2 := by decide +kernel
  simp [qd, h1, h2]
theorem bad2 : F_l_word [.tup [.lst false [.lst false [.tup [.int 2, .int 4], .tup [.int 0, .int 1]], .lst false [.tup [.int 1, .int 2], .tup [.int 0, .int 1]]], qd z, qd o]] = .val (.tup [.str "record", .int 0]) := by
  refine word_bad (by simp [D.fz, fzs, fz_qd]) ?_
  have h0 : F_is_chance [qd 0] = .val (.bl true) := chance_t ⟨by decide +kernel, by decide +kernel⟩ ⟨by decide +kernel, by decide +kernel⟩
  have h1 : F_is_chance [.tup [.int 1, .int 2]] = .val (.bl true) := by rw [qhalf]; exact chance_t ⟨by decide +kernel, by decide +kernel⟩ ⟨by decide +kernel, by decide +kernel⟩
  have h2 := q24
  have f24 : (D.tup [.int 2, .int 4]).fz = D.tup [.int 2, .int 4] := rfl
  have f12 : (D.tup [.int 1, .int 2]).fz = D.tup [.int 1, .int 2] := rfl
  unfold F_check_record G_check_record
  simp [mMeth, gAppend, keysOf, getP, pathL, putP, eLc2, lcL2, sFor, forL, giSeq, giRng1, giRng2, giEnum, seqOf, eLc, lcL, wipeE, cYes, gLen, gAll, blsOf, sRaise, fz_qd, cln_qd, qd0, qd1, gNe_str, gEq_str, gIsN_non, gIsN_tup, gIsN_lst, gNotN_non, gNotN_tup, gNotN_lst, runF, sSeq, sIf, sNx, sPar, sSet, sAsg, sRet, sDrop, eA, eF, eC, eV, eOr, eAnd, eNot, eIf, lC, lN, mE, mV, mC, mN, mTup, mLst, Tg.put, tgPuts, D.fz, fzs, D.clean, cleans, frz, fzAt, le_size, lt_size, gLt_val, gGt_val, gLe_val, gGe_val, gSub_val, gNe_int, gEq_int, gEq_qd, gNe_qd, gAdd, gNeg, gGcd, gTup, gLst, gIx_tup, gIx_lst, gIx_scr, gIx_q0, gIx_q1, num_neg, num_zero, gNe_bl, gEq_bl, gIsN_qd, gNotN_qd, gInt, gAbs, atI, ixN, h0, h1, h2]
theorem bad_zo {z1 o1 : Rat} {u v : Bool} (R : Rs N a b c d z o) (ia : in01 a) (ib : in01 b) (ic : in01 c) (id : in01 d) (s : a + b + c + d = 1)
    (cz : F_is_chance [qd z1] = .val (.bl u)) (co : F_is_chance [qd o1] = .val (.bl v)) (h : u = false ∨ v = false) : F_l_word [rc a b c d z1 o1] = .val (.tup [.str "record", .int 0]) := by
  refine word_bad (rc_fz ..) ?_
  have ca := chance_t (R.a.z R.n0 (by decide) R.n1) ia
  have cb := chance_t (R.b.z R.n0 (by decide) R.n1) ib
  have cc := chance_t (R.c.z R.n0 (by decide) R.n1) ic
  have cd := chance_t (R.d.z R.n0 (by decide) R.n1) id
  have t := total4_val R.n0 R.n1 R.a R.b R.c R.d
  rw [s] at t
  have n1 : gNe [qd 1, qd 1] = .val (.bl false) := gNe_qd1 rfl
  unfold F_check_record G_check_record rc
  rcases u with _ | _
  · simp [mMeth, gAppend, keysOf, getP, pathL, putP, eLc2, lcL2, sFor, forL, giSeq, giRng1, giRng2, giEnum, seqOf, eLc, lcL, wipeE, cYes, gLen, gAll, blsOf, sRaise, fz_qd, cln_qd, qd0, qd1, gNe_str, gEq_str, gIsN_non, gIsN_tup, gIsN_lst, gNotN_non, gNotN_tup, gNotN_lst, runF, sSeq, sIf, sNx, sPar, sSet, sAsg, sRet, sDrop, eA, eF, eC, eV, eOr, eAnd, eNot, eIf, lC, lN, mE, mV, mC, mN, mTup, mLst, Tg.put, tgPuts, D.fz, fzs, D.clean, cleans, frz, fzAt, le_size, lt_size, gLt_val, gGt_val, gLe_val, gGe_val, gSub_val, gNe_int, gEq_int, gEq_qd, gNe_qd, gAdd, gNeg, gGcd, gTup, gLst, gIx_tup, gIx_lst, gIx_scr, gIx_q0, gIx_q1, num_neg, num_zero, gNe_bl, gEq_bl, gIsN_qd, gNotN_qd, gInt, gAbs, atI, ixN, ca, cb, cc, cd, cz, co, t, n1]
  · rcases h with h | h
    · cases h
    · subst h
      simp [mMeth, gAppend, keysOf, getP, pathL, putP, eLc2, lcL2, sFor, forL, giSeq, giRng1, giRng2, giEnum, seqOf, eLc, lcL, wipeE, cYes, gLen, gAll, blsOf, sRaise, fz_qd, cln_qd, qd0, qd1, gNe_str, gEq_str, gIsN_non, gIsN_tup, gIsN_lst, gNotN_non, gNotN_tup, gNotN_lst, runF, sSeq, sIf, sNx, sPar, sSet, sAsg, sRet, sDrop, eA, eF, eC, eV, eOr, eAnd, eNot, eIf, lC, lN, mE, mV, mC, mN, mTup, mLst, Tg.put, tgPuts, D.fz, fzs, D.clean, cleans, frz, fzAt, le_size, lt_size, gLt_val, gGt_val, gLe_val, gGe_val, gSub_val, gNe_int, gEq_int, gEq_qd, gNe_qd, gAdd, gNeg, gGcd, gTup, gLst, gIx_tup, gIx_lst, gIx_scr, gIx_q0, gIx_q1, num_neg, num_zero, gNe_bl, gEq_bl, gIsN_qd, gNotN_qd, gInt, gAbs, atI, ixN, ca, cb, cc, cd, cz, co, t, n1]
theorem bad_sum (R : Rs N a b c d z o) (ia : in01 a) (ib : in01 b) (ic : in01 c) (id : in01 d) (s : a + b + c + d ≠ 1) {z1 o1 : Rat} : F_l_word [rc a b c d z1 o1] = .val (.tup [.str "record", .int 0]) := by
  refine word_bad (rc_fz ..) ?_
  have ca := chance_t (R.a.z R.n0 (by decide) R.n1) ia
  have cb := chance_t (R.b.z R.n0 (by decide) R.n1) ib
  have cc := chance_t (R.c.z R.n0 (by decide) R.n1) ic
  have cd := chance_t (R.d.z R.n0 (by decide) R.n1) id
  have t := total4_val R.n0 R.n1 R.a R.b R.c R.d
  have n1 : gNe [qd (a + b + c + d), qd 1] = .val (.bl true) := by rw [gNe_qd]; simp [s]
  unfold F_check_record G_check_record rc
  simp [mMeth, gAppend, keysOf, getP, pathL, putP, eLc2, lcL2, sFor, forL, giSeq, giRng1, giRng2, giEnum, seqOf, eLc, lcL, wipeE, cYes, gLen, sRaise, fz_qd, cln_qd, qd0, qd1, gNe_str, gEq_str, gIsN_non, gIsN_tup, gIsN_lst, gNotN_non, gNotN_tup, gNotN_lst, runF, sSeq, sIf, sNx, sPar, sSet, sAsg, sRet, sDrop, eA, eF, eC, eV, eOr, eAnd, eNot, eIf, lC, lN, mE, mV, mC, mN, mTup, mLst, Tg.put, tgPuts, D.fz, fzs, D.clean, cleans, frz, fzAt, le_size, lt_size, gLt_val, gGt_val, gLe_val, gGe_val, gSub_val, gNe_int, gEq_int, gEq_qd, gNe_qd, gAdd, gNeg, gGcd, gTup, gLst, gIx_tup, gIx_lst, gIx_scr, gIx_q0, gIx_q1, num_neg, num_zero, gNe_bl, gEq_bl, gIsN_qd, gNotN_qd, gInt, gAbs, atI, ixN, ca, cb, cc, cd, t, n1, gAll, blsOf, s]
theorem bad3 (G : Gd N a b c d z o) : F_l_word [rc a b c d (3 / 2) o] = .val (.tup [.str "record", .int 0]) := by
  have cz : F_is_chance [qd (3 / 2)] = .val (.bl false) := by rw [is_chance_val ⟨by decide +kernel, by decide +kernel⟩]; congr 2; decide +kernel
  exact bad_zo G.R G.ia G.ib G.ic G.id G.s cz (chance_t (G.R.o.z G.R.n0 (by decide) G.R.n1) G.io) (.inl rfl)
theorem bad4 (G : Gd N a b c d z o) : F_l_word [rc a b c d z (-1 / 2)] = .val (.tup [.str "record", .int 0]) := by
  have co : F_is_chance [qd (-1 / 2)] = .val (.bl false) := by rw [is_chance_val ⟨by decide +kernel, by decide +kernel⟩]; congr 2; decide +kernel
  exact bad_zo G.R G.ia G.ib G.ic G.id G.s (chance_t (G.R.z.z G.R.n0 (by decide) G.R.n1) G.iz) co (.inr rfl)
theorem sm_half : Sm 2 100 (1 / 2) := ⟨⟨1, by decide +kernel⟩, by decide +kernel, by decide +kernel⟩
theorem in_half : in01 (1 / 2) := ⟨by decide +kernel, by decide +kernel⟩
theorem bad5 {z1 o1 : Rat} : F_l_word [rc (1 / 2) (1 / 2) (1 / 2) 0 z1 o1] = .val (.tup [.str "record", .int 0]) := by
  exact bad_sum (N := 2) (z := 0) (o := 0) ⟨by decide, by decide, sm_half, sm_half, sm_half, Sm.zero, Sm.zero, Sm.zero⟩ in_half in_half in_half ⟨by decide, by decide⟩ (by decide +kernel)
theorem Sm.lift {M k : Nat} {r : Rat} (h : Sm N M r) : Sm (N * k) M r := by
  obtain ⟨i, e⟩ := h.on
  refine ⟨⟨i * k, ?_⟩, h.le, h.ge⟩
  rw [Rat.natCast_mul, Rat.intCast_mul, Rat.intCast_natCast, ← e]
  grind
theorem Rs.lift {k : Nat} (R : Rs N a b c d z o) (hk : k ≠ 0) (h : N * k ≤ 1000000) : Rs (N * k) a b c d z o :=
  ⟨Nat.mul_ne_zero R.n0 hk, h, R.a.lift, R.b.lift, R.c.lift, R.d.lift, R.z.lift, R.o.lift⟩
theorem unfit_of (G : Gd N a b c d z o) {M : Nat} {w : Rat} (hM : M ≤ 1000000) (R : Rs M a b c d z w) (hw : in01 w) (h : w < d ∨ a + b < w - d) : F_l_word [rc a b c d z w] = .val (.tup [.str "unfit", .int 0]) := by
  refine word_unf (rc_fz ..) ?_
  rw [check_val R ⟨G.ia.1, G.ia.2, G.ib.1, G.ib.2, G.ic.1, G.ic.2, G.id.1, G.id.2, G.iz.1, G.iz.2, hw.1, hw.2⟩ G.s, if_pos]
  rcases h with h | h
  · left; left; grind
  · left; right; grind
end
end DL

set_option Elab.async false
set_option linter.all false
set_option maxRecDepth 100000
set_option maxHeartbeats 2000000
namespace DL
open PySem PySem.Spec L2
open PyProof.Rows hiding St
noncomputable def Lw1 : Sv := (sSet 1 (mE [0] (eF F_l_draws (lC (eV 0) lN))))
noncomputable def Lw2 : Sv := (sSet 2 (mE [1, 3, 1] (eLc (lC (eC (.int 8)) lN) giRng1 (.nm 3) [3] cYes (eF F_l_mix (lC (eV 1) (lC (eA gAdd (lC (eC (.int 10)) (lC (eV 3) lN))) (lC (eA gIx (lC (eA gLst (lC (eC (.int 4)) (lC (eC (.int 9)) (lC (eC (.int 2)) lN)))) (lC (eF F_l_mix (lC (eV 1) (lC (eC (.int 0)) (lC (eC (.int 3)) lN)))) lN))) lN)))))))
noncomputable def Lw3 : Sv := (sIf (eA gEq (lC (eF F_l_mix (lC (eV 1) (lC (eC (.int 1)) (lC (eC (.int 3)) lN)))) (lC (eC (.int 1)) lN)))
   (sSeq (sAsg (.sub 2 [(eC (.int 2))]) (mE [] (eC (.int 0))))
   (sAsg (.sub 2 [(eC (.int 6))]) (mE [] (eC (.int 0)))))
   sNx)
noncomputable def Lw4 : Sv := (sIf (eA gEq (lC (eA gSum (lC (eV 2) lN)) (lC (eC (.int 0)) lN)))
   (sAsg (.sub 2 [(eF F_l_mix (lC (eV 1) (lC (eC (.int 2)) (lC (eC (.int 8)) lN))))]) (mE [] (eC (.int 1))))
   sNx)
noncomputable def Lw5 : Sv := (sSet 4 (mE [2, 5, 2] (eLc (lC (eV 2) lN) giSeq (.nm 5) [5] cYes (eF F_l_low (lC (eV 5) (lC (eA gSum (lC (eV 2) lN)) lN))))))
noncomputable def Lw6 : Sv := (sSet 6 (mE [4, 4] (eA gLst (lC (eA gSl (lC (eV 4) (lC eNo (lC (eInt (eC (.int 4))) lN)))) (lC (eA gSl (lC (eV 4) (lC (eInt (eC (.int 4))) (lC eNo lN)))) lN)))))
noncomputable def Lw7 : Sv := (sSet 7 (mE [6] (eF F_l_record (lC (eV 6) lN))))
noncomputable def Lw8 : Sv := (sSet 8 (mE [7] (eA gRepr (lC (eV 7) lN))))
noncomputable def Lw9 : Sv := (sIf (eA gNe (lC (eA gRepr (lC (eF F_ends (lC (eV 7) (lC (eC (.str "both")) lN))) lN)) (lC (eA gRepr (lC (eF F_l_bounds (lC (eV 7) lN)) lN)) lN)))
   (sRet (mE [] (eC (.bl false))))
   sNx)
noncomputable def Lw10 : Sv := (sIf (eAnd (eA gEq (lC (eA gIx (lC (eV 2) (lC (eC (.int 2)) lN))) (lC (eC (.int 0)) lN))) (eAnd (eA gEq (lC (eA gIx (lC (eV 2) (lC (eC (.int 6)) lN))) (lC (eC (.int 0)) lN))) (eA gNe (lC (eF F_l_chance (lC (eV 6) (lC (eC (.str "both")) lN))) (lC (eF F_l_minus (lC (eA gIx (lC (eV 7) (lC (eC (.int 2)) lN))) (lC (eA gIx (lC (eV 7) (lC (eC (.int 1)) lN))) lN))) lN)))))
   (sRet (mE [] (eC (.bl false))))
   sNx)
noncomputable def Lw11 : Sv := (sSet 9 (mE [6] (eA gLst (lC (eV 6) lN))))
noncomputable def Lw12 : Sv := (sFor [] (lC (eA gLst (lC (eC (.str "both")) (lC (eC (.str "needed")) (lC (eC (.str "enough")) lN)))) lN) giSeq (.nm 10)
   B_law_4)
noncomputable def Lw13 : Sv := (sSet 9 (mE [9, 6, 6, 6, 6, 6, 6] (eA gAdd (lC (eV 9) (lC (eA gLst (lC (eA gSl (lC (eV 6) (lC eNo (lC (eInt (eC (.int 1))) lN)))) (lC (eA gLst (lC (eA gIx (lC (eV 6) (lC (eC (.int 0)) lN))) (lC (eA gSl (lC (eA gIx (lC (eV 6) (lC (eC (.int 1)) lN))) (lC (eInt (eC (.int 1))) (lC eNo lN)))) lN))) (lC (eA gLst (lC (eA gIx (lC (eV 6) (lC (eC (.int 1)) lN))) (lC (eA gIx (lC (eV 6) (lC (eC (.int 0)) lN))) lN))) (lC (eF F_l_moved (lC (eV 6) (lC (eC (.int 0)) (lC (eA gTup (lC (eC (.int 1)) (lC (eC (.int 1)) lN))) lN)))) lN))))) lN)))))
noncomputable def Lw14 : Sv := (sFor [9] (lC (eA gSl (lC (eV 9) (lC eNo (lC (eInt (eC (.int 30))) lN)))) lN) giSeq (.nm 18)
   B_law_5)
noncomputable def Lw15 : Sv := (sAsg (.tp [(.nm 20), (.nm 21), (.nm 18)]) (mE [7] (eV 7)))
noncomputable def Lw16 : Sv := (sSet 22 (mE [20, 21, 18, 21, 18, 20, 18, 20, 21] (eA gLst (lC (eA gTup (lC (eA gLst (lC (eA gIx (lC (eV 20) (lC (eC (.int 0)) lN))) lN)) (lC (eV 21) (lC (eV 18) lN)))) (lC (eA gTup (lC (eA gLst (lC (eA gLst (lC (eA gTup (lC (eC (.int 2)) (lC (eC (.int 4)) lN))) (lC (eA gTup (lC (eC (.int 0)) (lC (eC (.int 1)) lN))) lN))) (lC (eA gLst (lC (eA gTup (lC (eC (.int 1)) (lC (eC (.int 2)) lN))) (lC (eA gTup (lC (eC (.int 0)) (lC (eC (.int 1)) lN))) lN))) lN))) (lC (eV 21) (lC (eV 18) lN)))) (lC (eA gTup (lC (eV 20) (lC (eA gTup (lC (eC (.int 3)) (lC (eC (.int 2)) lN))) (lC (eV 18) lN)))) (lC (eA gTup (lC (eV 20) (lC (eV 21) (lC (eA gTup (lC (eA gNeg (lC (eC (.int 1)) lN)) (lC (eC (.int 2)) lN))) lN)))) lN)))))))
noncomputable def Lw17 : Sv := (sFor [22, 21, 18] (lC (eA gAdd (lC (eV 22) (lC (eA gLst (lC (eA gTup (lC (eA gLst (lC (eA gLst (lC (eA gTup (lC (eC (.int 1)) (lC (eC (.int 2)) lN))) (lC (eA gTup (lC (eC (.int 1)) (lC (eC (.int 2)) lN))) lN))) (lC (eA gLst (lC (eA gTup (lC (eC (.int 1)) (lC (eC (.int 2)) lN))) (lC (eA gTup (lC (eC (.int 0)) (lC (eC (.int 1)) lN))) lN))) lN))) (lC (eV 21) (lC (eV 18) lN)))) lN)) lN))) lN) giSeq (.nm 16)
   B_law_6)
noncomputable def Lw18 : Sv := (sFor [20, 20, 20, 20] (lC (eA gLst (lC (eF F_l_minus (lC (eA gIx (lC (eA gIx (lC (eV 20) (lC (eC (.int 1)) lN))) (lC (eC (.int 1)) lN))) (lC (eA gTup (lC (eC (.int 1)) (lC (eC (.int 30)) lN))) lN))) (lC (eF F_l_sum (lC (eA gLst (lC (eA gIx (lC (eA gIx (lC (eV 20) (lC (eC (.int 1)) lN))) (lC (eC (.int 1)) lN))) (lC (eA gIx (lC (eA gIx (lC (eV 20) (lC (eC (.int 0)) lN))) (lC (eC (.int 0)) lN))) (lC (eA gIx (lC (eA gIx (lC (eV 20) (lC (eC (.int 0)) lN))) (lC (eC (.int 1)) lN))) (lC (eA gTup (lC (eC (.int 1)) (lC (eC (.int 30)) lN))) lN))))) lN)) lN))) lN) giSeq (.nm 16)
   B_law_7)
noncomputable def Lw19 : Sv := (sRet (mE [7, 8] (eA gEq (lC (eA gRepr (lC (eV 7) lN)) (lC (eV 8) lN)))))
theorem Lw_eq : G_law = sSeq Lw1 (sSeq Lw2 (sSeq Lw3 (sSeq Lw4 (sSeq Lw5 (sSeq Lw6 (sSeq Lw7 (sSeq Lw8 (sSeq Lw9 (sSeq Lw10 (sSeq Lw11 (sSeq Lw12 (sSeq Lw13 (sSeq Lw14 (sSeq Lw15 (sSeq Lw16 (sSeq Lw17 (sSeq Lw18 (Lw19)))))))))))))))))) := rfl
theorem rng8 : giRng1 [.int 8] = some [.int 0, .int 1, .int 2, .int 3, .int 4, .int 5, .int 6, .int 7] := rfl
section
variable {e0 e1 e2 e3 e4 e5 e6 e7 e8 e9 e10 e11 e12 e13 e14 e15 e16 e17 e18 e19 e20 e21 e22 : Option D}
/-- a part: 0 to 8 -/
def P8 (p : Int) : Prop := 0 ≤ p ∧ p ≤ 8
theorem lw2 (ds : List Int) (hb : Bd ds) : ∃ p0 p1 p2 p3 p4 p5 p6 p7 : Int, (P8 p0 ∧ P8 p1 ∧ P8 p2 ∧ P8 p3 ∧ P8 p4 ∧ P8 p5 ∧ P8 p6 ∧ P8 p7) ∧
    Lw2 [e0, some (.lst true (ds.map D.int)), none, none, e4, e5, e6, e7, e8, e9, e10, e11, e12, e13, e14, e15, e16, e17, e18, e19, e20, e21, e22] =
    .nx [e0, some (.lst true (ds.map D.int)), some (.lst true [.int p0, .int p1, .int p2, .int p3, .int p4, .int p5, .int p6, .int p7]), none, e4, e5, e6, e7, e8, e9, e10, e11, e12, e13, e14, e15, e16, e17, e18, e19, e20, e21, e22] := by
  obtain ⟨q, m0, q0, q1⟩ := mix_val ds hb 0 3 (by decide) (by decide)
  have hm : ∃ m : Int, 0 < m ∧ m ≤ 9 ∧ atI [D.int 4, .int 9, .int 2] q = some (.int m) := by
    have : q = 0 ∨ q = 1 ∨ q = 2 := by omega
    rcases this with rfl | rfl | rfl
    · exact ⟨4, by decide, by decide, rfl⟩
    · exact ⟨9, by decide, by decide, rfl⟩
    · exact ⟨2, by decide, by decide, rfl⟩
  obtain ⟨m, hm0, hm1, hm⟩ := hm
  obtain ⟨p0, k0, a0, b0⟩ := mix_val ds hb 10 m (by decide) hm0
  obtain ⟨p1, k1, a1, b1⟩ := mix_val ds hb 11 m (by decide) hm0
  obtain ⟨p2, k2, a2, b2⟩ := mix_val ds hb 12 m (by decide) hm0
  obtain ⟨p3, k3, a3, b3⟩ := mix_val ds hb 13 m (by decide) hm0
  obtain ⟨p4, k4, a4, b4⟩ := mix_val ds hb 14 m (by decide) hm0
  obtain ⟨p5, k5, a5, b5⟩ := mix_val ds hb 15 m (by decide) hm0
  obtain ⟨p6, k6, a6, b6⟩ := mix_val ds hb 16 m (by decide) hm0
  obtain ⟨p7, k7, a7, b7⟩ := mix_val ds hb 17 m (by decide) hm0
  refine ⟨p0, p1, p2, p3, p4, p5, p6, p7, ⟨⟨a0, by omega⟩, ⟨a1, by omega⟩, ⟨a2, by omega⟩, ⟨a3, by omega⟩, ⟨a4, by omega⟩, ⟨a5, by omega⟩, ⟨a6, by omega⟩, ⟨a7, by omega⟩⟩, ?_⟩
  have g : gIx [.lst true [.int 4, .int 9, .int 2], .int q] = .val (.int m) := by rw [gIx_lst, hm]
  unfold Lw2
  simp [sSet, sAsg, mE, eLc, lcL, wipeE, cYes, eF, eA, lC, lN, eC, eV, D.fz, fzs, fzs_ints, rng8, gLst, le_size, gAdd, m0, g, k0, k1, k2, k3, k4, k5, k6, k7, Tg.put, D.clean, cleans]
theorem lw3 (ds : List Int) (hb : Bd ds) {p0 p1 p2 p3 p4 p5 p6 p7 : Int} (h2 : P8 p2) (h6 : P8 p6) : ∃ p2' p6' : Int, (P8 p2' ∧ P8 p6') ∧
    Lw3 [e0, some (.lst true (ds.map D.int)), some (.lst true [.int p0, .int p1, .int p2, .int p3, .int p4, .int p5, .int p6, .int p7]), e3, e4, e5, e6, e7, e8, e9, e10, e11, e12, e13, e14, e15, e16, e17, e18, e19, e20, e21, e22] =
    .nx [e0, some (.lst true (ds.map D.int)), some (.lst true [.int p0, .int p1, .int p2', .int p3, .int p4, .int p5, .int p6', .int p7]), e3, e4, e5, e6, e7, e8, e9, e10, e11, e12, e13, e14, e15, e16, e17, e18, e19, e20, e21, e22] := by
  obtain ⟨q, m0, q0, q1⟩ := mix_val ds hb 1 3 (by decide) (by decide)
  by_cases hq : q = 1
  · subst hq
    refine ⟨0, 0, ⟨⟨by decide, by decide⟩, by decide, by decide⟩, ?_⟩
    unfold Lw3
    simp [sSeq, sIf, sAsg, mE, eF, eA, lC, lN, eC, eV, D.fz, fzs, fzs_ints, m0, gEq_int, Tg.put, keysOf, setP, pathL, getP, putP, dSet, dGet, ixN, D.clean, cleans]
  · refine ⟨p2, p6, ⟨h2, h6⟩, ?_⟩
    unfold Lw3
    simp [sSeq, sIf, sNx, sAsg, mE, eF, eA, lC, lN, eC, eV, D.fz, fzs, fzs_ints, m0, gEq_int, hq]
theorem gSum8 {s : Bool} {p0 p1 p2 p3 p4 p5 p6 p7 : Int} : gSum [.lst s [.int p0, .int p1, .int p2, .int p3, .int p4, .int p5, .int p6, .int p7]] = .val (.int (p0 + (p1 + (p2 + (p3 + (p4 + (p5 + (p6 + p7)))))))) := by
  simp [gSum, intsOf]
theorem lw4 (ds : List Int) (hb : Bd ds) {p0 p1 p2 p3 p4 p5 p6 p7 : Int} (h : P8 p0 ∧ P8 p1 ∧ P8 p2 ∧ P8 p3 ∧ P8 p4 ∧ P8 p5 ∧ P8 p6 ∧ P8 p7) : ∃ q0 q1 q2 q3 q4 q5 q6 q7 : Int, (P8 q0 ∧ P8 q1 ∧ P8 q2 ∧ P8 q3 ∧ P8 q4 ∧ P8 q5 ∧ P8 q6 ∧ P8 q7) ∧ 0 < q0 + (q1 + (q2 + (q3 + (q4 + (q5 + (q6 + q7)))))) ∧
    Lw4 [e0, some (.lst true (ds.map D.int)), some (.lst true [.int p0, .int p1, .int p2, .int p3, .int p4, .int p5, .int p6, .int p7]), e3, e4, e5, e6, e7, e8, e9, e10, e11, e12, e13, e14, e15, e16, e17, e18, e19, e20, e21, e22] =
    .nx [e0, some (.lst true (ds.map D.int)), some (.lst true [.int q0, .int q1, .int q2, .int q3, .int q4, .int q5, .int q6, .int q7]), e3, e4, e5, e6, e7, e8, e9, e10, e11, e12, e13, e14, e15, e16, e17, e18, e19, e20, e21, e22] := by
  unfold P8 at h
  by_cases hq : p0 + (p1 + (p2 + (p3 + (p4 + (p5 + (p6 + p7)))))) = 0
  · obtain ⟨q, m0, q0, q1⟩ := mix_val ds hb 2 8 (by decide) (by decide)
    have hz : p0 = 0 ∧ p1 = 0 ∧ p2 = 0 ∧ p3 = 0 ∧ p4 = 0 ∧ p5 = 0 ∧ p6 = 0 ∧ p7 = 0 := by omega
    obtain ⟨rfl, rfl, rfl, rfl, rfl, rfl, rfl, rfl⟩ := hz
    have z0 : P8 0 := ⟨by decide, by decide⟩
    have z1 : P8 1 := ⟨by decide, by decide⟩
    have : q = 0 ∨ q = 1 ∨ q = 2 ∨ q = 3 ∨ q = 4 ∨ q = 5 ∨ q = 6 ∨ q = 7 := by omega
    unfold Lw4
    rcases this with rfl | rfl | rfl | rfl | rfl | rfl | rfl | rfl
    · exact ⟨1, 0, 0, 0, 0, 0, 0, 0, ⟨z1, z0, z0, z0, z0, z0, z0, z0⟩, by decide, by simp [sSeq, sIf, sAsg, mE, eF, eA, lC, lN, eC, eV, D.fz, fzs, fzs_ints, m0, gEq_int, gSum8, Tg.put, keysOf, setP, pathL, getP, putP, dSet, dGet, ixN, D.clean, cleans]⟩
    · exact ⟨0, 1, 0, 0, 0, 0, 0, 0, ⟨z0, z1, z0, z0, z0, z0, z0, z0⟩, by decide, by simp [sSeq, sIf, sAsg, mE, eF, eA, lC, lN, eC, eV, D.fz, fzs, fzs_ints, m0, gEq_int, gSum8, Tg.put, keysOf, setP, pathL, getP, putP, dSet, dGet, ixN, D.clean, cleans]⟩
    · exact ⟨0, 0, 1, 0, 0, 0, 0, 0, ⟨z0, z0, z1, z0, z0, z0, z0, z0⟩, by decide, by simp [sSeq, sIf, sAsg, mE, eF, eA, lC, lN, eC, eV, D.fz, fzs, fzs_ints, m0, gEq_int, gSum8, Tg.put, keysOf, setP, pathL, getP, putP, dSet, dGet, ixN, D.clean, cleans]⟩
    · exact ⟨0, 0, 0, 1, 0, 0, 0, 0, ⟨z0, z0, z0, z1, z0, z0, z0, z0⟩, by decide, by simp [sSeq, sIf, sAsg, mE, eF, eA, lC, lN, eC, eV, D.fz, fzs, fzs_ints, m0, gEq_int, gSum8, Tg.put, keysOf, setP, pathL, getP, putP, dSet, dGet, ixN, D.clean, cleans]⟩
    · exact ⟨0, 0, 0, 0, 1, 0, 0, 0, ⟨z0, z0, z0, z0, z1, z0, z0, z0⟩, by decide, by simp [sSeq, sIf, sAsg, mE, eF, eA, lC, lN, eC, eV, D.fz, fzs, fzs_ints, m0, gEq_int, gSum8, Tg.put, keysOf, setP, pathL, getP, putP, dSet, dGet, ixN, D.clean, cleans]⟩
    · exact ⟨0, 0, 0, 0, 0, 1, 0, 0, ⟨z0, z0, z0, z0, z0, z1, z0, z0⟩, by decide, by simp [sSeq, sIf, sAsg, mE, eF, eA, lC, lN, eC, eV, D.fz, fzs, fzs_ints, m0, gEq_int, gSum8, Tg.put, keysOf, setP, pathL, getP, putP, dSet, dGet, ixN, D.clean, cleans]⟩
    · exact ⟨0, 0, 0, 0, 0, 0, 1, 0, ⟨z0, z0, z0, z0, z0, z0, z1, z0⟩, by decide, by simp [sSeq, sIf, sAsg, mE, eF, eA, lC, lN, eC, eV, D.fz, fzs, fzs_ints, m0, gEq_int, gSum8, Tg.put, keysOf, setP, pathL, getP, putP, dSet, dGet, ixN, D.clean, cleans]⟩
    · exact ⟨0, 0, 0, 0, 0, 0, 0, 1, ⟨z0, z0, z0, z0, z0, z0, z0, z1⟩, by decide, by simp [sSeq, sIf, sAsg, mE, eF, eA, lC, lN, eC, eV, D.fz, fzs, fzs_ints, m0, gEq_int, gSum8, Tg.put, keysOf, setP, pathL, getP, putP, dSet, dGet, ixN, D.clean, cleans]⟩
  · refine ⟨p0, p1, p2, p3, p4, p5, p6, p7, h, by omega, ?_⟩
    unfold Lw4
    simp [sSeq, sIf, sNx, eA, lC, lN, eC, eV, D.fz, fzs, gEq_int, gSum8, hq]
theorem lw5 {p0 p1 p2 p3 p4 p5 p6 p7 : Int} {S : Nat} (hS : (S : Int) = p0 + (p1 + (p2 + (p3 + (p4 + (p5 + (p6 + p7))))))) (h0 : S ≠ 0) (h1 : S < 2 ^ 900) :
    Lw5 [e0, e1, some (.lst true [.int p0, .int p1, .int p2, .int p3, .int p4, .int p5, .int p6, .int p7]), e3, e4, e5, e6, e7, e8, e9, e10, e11, e12, e13, e14, e15, e16, e17, e18, e19, e20, e21, e22] =
    .nx [e0, e1, some (.lst true [.int p0, .int p1, .int p2, .int p3, .int p4, .int p5, .int p6, .int p7]), e3, some (.lst true [qd (Rat.divInt p0 S), qd (Rat.divInt p1 S), qd (Rat.divInt p2 S), qd (Rat.divInt p3 S), qd (Rat.divInt p4 S), qd (Rat.divInt p5 S), qd (Rat.divInt p6 S), qd (Rat.divInt p7 S)]), e5, e6, e7, e8, e9, e10, e11, e12, e13, e14, e15, e16, e17, e18, e19, e20, e21, e22] := by
  have k := fun n => l_low_val n S h0 h1
  unfold Lw5
  simp [sSet, sAsg, mE, eLc, lcL, wipeE, cYes, giSeq, seqOf, eF, eA, lC, lN, eC, eV, D.fz, fzs, le_size, gSum8, ← hS, k, Tg.put, D.clean, cleans, cln_qd]
theorem cut4a {a0 a1 a2 a3 a4 a5 a6 a7 : D} : cutD [a0, a1, a2, a3, a4, a5, a6, a7] none (some 4) = [a0, a1, a2, a3] := rfl
theorem cut4b {a0 a1 a2 a3 a4 a5 a6 a7 : D} : cutD [a0, a1, a2, a3, a4, a5, a6, a7] (some 4) none = [a4, a5, a6, a7] := rfl
theorem lw6 {x0 x1 x2 x3 y0 y1 y2 y3 : Rat} :
    Lw6 [e0, e1, e2, e3, some (.lst true [qd x0, qd x1, qd x2, qd x3, qd y0, qd y1, qd y2, qd y3]), e5, e6, e7, e8, e9, e10, e11, e12, e13, e14, e15, e16, e17, e18, e19, e20, e21, e22] =
    .nx [e0, e1, e2, e3, some (.lst true [qd x0, qd x1, qd x2, qd x3, qd y0, qd y1, qd y2, qd y3]), e5, some (.lst true [.lst true [qd x0, qd x1, qd x2, qd x3], .lst true [qd y0, qd y1, qd y2, qd y3]]), e7, e8, e9, e10, e11, e12, e13, e14, e15, e16, e17, e18, e19, e20, e21, e22] := by
  unfold Lw6
  simp [sSet, sAsg, mE, eA, lC, lN, eC, eV, eNo, eInt, gSl, sPart, cut4a, cut4b, gLst, le_size, D.fz, fzs, fz_qd, Tg.put, D.clean, cleans, cln_qd]
theorem lw7 {N : Nat} {x0 x1 x2 x3 y0 y1 y2 y3 : Rat} (T : Ts N x0 x1 x2 x3 y0 y1 y2 y3) :
    Lw7 [e0, e1, e2, e3, e4, e5, some (.lst true [.lst true [qd x0, qd x1, qd x2, qd x3], .lst true [qd y0, qd y1, qd y2, qd y3]]), e7, e8, e9, e10, e11, e12, e13, e14, e15, e16, e17, e18, e19, e20, e21, e22] =
    .nx [e0, e1, e2, e3, e4, e5, some (.lst true [.lst true [qd x0, qd x1, qd x2, qd x3], .lst true [qd y0, qd y1, qd y2, qd y3]]), some (rct x0 x1 x2 x3 y0 y1 y2 y3), e8, e9, e10, e11, e12, e13, e14, e15, e16, e17, e18, e19, e20, e21, e22] := by
  have h := l_record_val T
  have hc : (rct x0 x1 x2 x3 y0 y1 y2 y3).clean = true := by simp [rct, D.clean, cleans, cln_qd]
  unfold tl at h
  unfold Lw7
  simp [sSet, sAsg, mE, eF, eA, lC, lN, eC, eV, D.fz, fzs, fz_qd, h, hc, Tg.put]
end
end DL

set_option Elab.async false
set_option linter.all false
set_option maxRecDepth 100000
set_option maxHeartbeats 2000000
namespace DL
open PySem PySem.Spec L2
open PyProof.Rows hiding St
theorem rct_fz (x0 x1 x2 x3 y0 y1 y2 y3 : Rat) : (rct x0 x1 x2 x3 y0 y1 y2 y3).fz = rc (x0 + x1) (x2 + x3) (y0 + y2) (y1 + y3) (x2 + x3 + y2 + y3) (x1 + x3 + y1 + y3) := by
  simp [rct, rc, D.fz, fzs, fz_qd]
theorem sm_sh {N M : Nat} {r : Rat} (h : Sm N M r) (hN : N ≠ 0) (n1 : N ≤ 1000000) (m1 : M ≤ 1000) : (qd r).short := by
  have : M * N ≤ 1000 * 1000000 := Nat.mul_le_mul m1 n1
  exact sm_short h hN (Nat.lt_of_le_of_lt this (by decide)) (Nat.lt_of_le_of_lt n1 (by decide))
theorem qd_blk (r : Rat) : (qd r).blk = 5 := by simp [qd, D.blk, blks]
section
variable {N : Nat} {a b c d z o : Rat} {e0 e1 e2 e3 e4 e5 e6 e7 e8 e9 e10 e11 e12 e13 e14 e15 e16 e17 e18 e19 e20 e21 e22 : Option D}
theorem repr_rc (R : Rs N a b c d z o) : gRepr [rc a b c d z o] = .val (.str (dRepr (rc a b c d z o))) := by
  have A := sm_sh R.a R.n0 R.n1 (by decide)
  have B := sm_sh R.b R.n0 R.n1 (by decide)
  have C := sm_sh R.c R.n0 R.n1 (by decide)
  have DD := sm_sh R.d R.n0 R.n1 (by decide)
  have Z := sm_sh R.z R.n0 R.n1 (by decide)
  have O := sm_sh R.o R.n0 R.n1 (by decide)
  unfold rc
  exact gRepr_tup (by simp [D.short, shorts, A, B, C, DD, Z, O]) (by simp [D.dp, dps, qd_dp]) (by simp [D.blk, blks, qd_blk])
theorem repr_2 {M M' : Nat} {u v : Rat} (hN : N ≠ 0) (n1 : N ≤ 1000000) (hu : Sm N M u) (hv : Sm N M' v) (m : M ≤ 1000) (m' : M' ≤ 1000) : gRepr [.tup [qd u, qd v]] = .val (.str (dRepr (.tup [qd u, qd v]))) := by
  have A := sm_sh hu hN n1 m
  have B := sm_sh hv hN n1 m'
  exact gRepr_tup (by simp [D.short, shorts, A, B]) (by simp [D.dp, dps, qd_dp]) (by simp [D.blk, blks, qd_blk])
theorem lw8 {r7 : D} (R : Rs N a b c d z o) (h7 : r7.fz = rc a b c d z o) :
    Lw8 [e0, e1, e2, e3, e4, e5, e6, some r7, e8, e9, e10, e11, e12, e13, e14, e15, e16, e17, e18, e19, e20, e21, e22] =
    .nx [e0, e1, e2, e3, e4, e5, e6, some r7, some (.str (dRepr (rc a b c d z o))), e9, e10, e11, e12, e13, e14, e15, e16, e17, e18, e19, e20, e21, e22] := by
  have h := repr_rc R
  unfold Lw8
  simp [sSet, sAsg, mE, eA, lC, lN, eC, eV, h7, h, Tg.put, D.clean]
theorem lw9 {r7 : D} (G : Gd N a b c d z o) (h7 : r7.fz = rc a b c d z o) :
    Lw9 [e0, e1, e2, e3, e4, e5, e6, some r7, e8, e9, e10, e11, e12, e13, e14, e15, e16, e17, e18, e19, e20, e21, e22] =
    .nx [e0, e1, e2, e3, e4, e5, e6, some r7, e8, e9, e10, e11, e12, e13, e14, e15, e16, e17, e18, e19, e20, e21, e22] := by
  obtain ⟨lo, hi, h, k1, k2, j1, j2⟩ := l_bounds_val G.R
  obtain ⟨u1, u2⟩ := both_bounds G.s k1 k2 j1 j2
  have e := ends_val G.chk (ends_both G.R)
  have r := repr_2 G.R.n0 G.R.n1 ((sm_hz0 G.R).add (sm_ho0 G.R)) ((sm_hz1 G.R).add (sm_ho1 G.R)) (by decide) (by decide)
  rw [u1, u2] at e r
  unfold Lw9
  simp [sIf, sNx, eF, eA, lC, lN, eC, eV, h7, D.fz, fzs, fz_qd, rc_fz, e, h, r, gNe_str]
theorem lw10 {r7 t6 : D} {p0 p1 p2 p3 p4 p5 p6 p7 : Int} {x0 x1 x2 x3 y0 y1 y2 y3 : Rat} (T : Ts N x0 x1 x2 x3 y0 y1 y2 y3) (R : Rs N a b c d z o) (h7 : r7.fz = rc a b c d z o) (h6 : t6.fz = tl x0 x1 x2 x3 y0 y1 y2 y3)
    (h : p2 = 0 → p6 = 0 → x1 + y1 = o - z) :
    Lw10 [e0, e1, some (.lst true [.int p0, .int p1, .int p2, .int p3, .int p4, .int p5, .int p6, .int p7]), e3, e4, e5, some t6, some r7, e8, e9, e10, e11, e12, e13, e14, e15, e16, e17, e18, e19, e20, e21, e22] =
    .nx [e0, e1, some (.lst true [.int p0, .int p1, .int p2, .int p3, .int p4, .int p5, .int p6, .int p7]), e3, e4, e5, some t6, some r7, e8, e9, e10, e11, e12, e13, e14, e15, e16, e17, e18, e19, e20, e21, e22] := by
  have c1 := l_chance_both T
  have m := l_minus_val (R.o.z R.n0 (by decide) R.n1) (R.z.z R.n0 (by decide) R.n1)
  unfold Lw10
  by_cases h2 : p2 = 0
  · by_cases h6' : p6 = 0
    · have := h h2 h6'
      subst h2 h6'
      rw [this] at c1
      simp only [rc] at h7
      simp [mMeth, gAppend, keysOf, getP, pathL, putP, eLc2, lcL2, sFor, forL, giSeq, giRng1, giRng2, giEnum, seqOf, eLc, lcL, wipeE, cYes, gLen, gAll, blsOf, sRaise, fz_qd, cln_qd, qd0, qd1, gNe_str, gEq_str, gIsN_non, gIsN_tup, gIsN_lst, gNotN_non, gNotN_tup, gNotN_lst, runF, sSeq, sIf, sNx, sPar, sSet, sAsg, sRet, sDrop, eA, eF, eC, eV, eOr, eAnd, eNot, eIf, lC, lN, mE, mV, mC, mN, mTup, mLst, Tg.put, tgPuts, D.fz, fzs, D.clean, cleans, frz, fzAt, le_size, lt_size, gLt_val, gGt_val, gLe_val, gGe_val, gSub_val, gNe_int, gEq_int, gEq_qd, gNe_qd, gAdd, gNeg, gGcd, gTup, gLst, gIx_tup, gIx_lst, gIx_scr, gIx_q0, gIx_q1, num_neg, num_zero, gNe_bl, gEq_bl, gIsN_qd, gNotN_qd, gInt, gAbs, atI, ixN, h7, h6, tl_fz, c1, m]
    · simp [mMeth, gAppend, keysOf, getP, pathL, putP, eLc2, lcL2, sFor, forL, giSeq, giRng1, giRng2, giEnum, seqOf, eLc, lcL, wipeE, cYes, gLen, gAll, blsOf, sRaise, fz_qd, cln_qd, qd0, qd1, gNe_str, gEq_str, gIsN_non, gIsN_tup, gIsN_lst, gNotN_non, gNotN_tup, gNotN_lst, runF, sSeq, sIf, sNx, sPar, sSet, sAsg, sRet, sDrop, eA, eF, eC, eV, eOr, eAnd, eNot, eIf, lC, lN, mE, mV, mC, mN, mTup, mLst, Tg.put, tgPuts, D.fz, fzs, D.clean, cleans, frz, fzAt, le_size, lt_size, gLt_val, gGt_val, gLe_val, gGe_val, gSub_val, gNe_int, gEq_int, gEq_qd, gNe_qd, gAdd, gNeg, gGcd, gTup, gLst, gIx_tup, gIx_lst, gIx_scr, gIx_q0, gIx_q1, num_neg, num_zero, gNe_bl, gEq_bl, gIsN_qd, gNotN_qd, gInt, gAbs, atI, ixN, h2, h6']
  · simp [mMeth, gAppend, keysOf, getP, pathL, putP, eLc2, lcL2, sFor, forL, giSeq, giRng1, giRng2, giEnum, seqOf, eLc, lcL, wipeE, cYes, gLen, gAll, blsOf, sRaise, fz_qd, cln_qd, qd0, qd1, gNe_str, gEq_str, gIsN_non, gIsN_tup, gIsN_lst, gNotN_non, gNotN_tup, gNotN_lst, runF, sSeq, sIf, sNx, sPar, sSet, sAsg, sRet, sDrop, eA, eF, eC, eV, eOr, eAnd, eNot, eIf, lC, lN, mE, mV, mC, mN, mTup, mLst, Tg.put, tgPuts, D.fz, fzs, D.clean, cleans, frz, fzAt, le_size, lt_size, gLt_val, gGt_val, gLe_val, gGe_val, gSub_val, gNe_int, gEq_int, gEq_qd, gNe_qd, gAdd, gNeg, gGcd, gTup, gLst, gIx_tup, gIx_lst, gIx_scr, gIx_q0, gIx_q1, num_neg, num_zero, gNe_bl, gEq_bl, gIsN_qd, gNotN_qd, gInt, gAbs, atI, ixN, h2]
theorem lw11 {t6 : D} {x0 x1 x2 x3 y0 y1 y2 y3 : Rat} (h6 : t6.fz = tl x0 x1 x2 x3 y0 y1 y2 y3) :
    Lw11 [e0, e1, e2, e3, e4, e5, some t6, e7, e8, e9, e10, e11, e12, e13, e14, e15, e16, e17, e18, e19, e20, e21, e22] =
    .nx [e0, e1, e2, e3, e4, e5, some (tl x0 x1 x2 x3 y0 y1 y2 y3), e7, e8, some (.lst true [tl x0 x1 x2 x3 y0 y1 y2 y3]), e10, e11, e12, e13, e14, e15, e16, e17, e18, e19, e20, e21, e22] := by
  have hc : (tl x0 x1 x2 x3 y0 y1 y2 y3).clean = false := by simp [tl, D.clean]
  unfold Lw11
  simp [sSet, sAsg, mE, eA, lC, lN, eV, h6, gLst, le_size, D.clean, cleans, hc, frz, fzAt, Tg.put]
theorem lw12 (G : Gd N a b c d z o) {x0 x1 x2 x3 y0 y1 y2 y3 : Rat} (T : Ts N x0 x1 x2 x3 y0 y1 y2 y3) (k0 : okT a b c d z o x0 x1 x2 x3 y0 y1 y2 y3)
    {P2 r7 t6 : D} {S : Nat} (hS : N = 4 * S) (hs : gSum [P2.fz] = .val (.int (S : Int))) (h7 : r7.fz = rc a b c d z o) (h6 : t6.fz = tl x0 x1 x2 x3 y0 y1 y2 y3) {L : List D} (hL : L.length ≤ 1) :
    ∃ L' e3' e10' e11' e12' e13' e14' e15' e16' e17', Gr N L L' 60 ∧
    Lw12 [e0, e1, some P2, e3, e4, e5, some t6, some r7, e8, some (.lst true L), e10, e11, e12, e13, e14, e15, e16, e17, e18, e19, e20, e21, e22] =
    .nx [e0, e1, some P2, e3', e4, e5, some t6, some r7, e8, some (.lst true L'), e10', e11', e12', e13', e14', e15', e16', e17', e18, e19, e20, e21, e22] := by
  obtain ⟨L', f3, f10, f11, f12, f13, f14, f15, f16, f17, g, s⟩ := b4_loop (e0 := e0) (e1 := e1) (e4 := e4) (e5 := e5) (e8 := e8) (e18 := e18) (e19 := e19) (e20 := e20) (e21 := e21) (e22 := e22) G T k0 hS hs h7 h6 [0, 1, 2] L e3 e10 e11 e12 e13 e14 e15 e16 e17 (by simp; omega)
  refine ⟨L', f3, f10, f11, f12, f13, f14, f15, f16, f17, g, ?_⟩
  have a1 : (lC (eA gLst (lC (eC (.str "both")) (lC (eC (.str "needed")) (lC (eC (.str "enough")) lN)))) lN) [e0, e1, some P2, e3, e4, e5, some t6, some r7, e8, some (.lst true L), e10, e11, e12, e13, e14, e15, e16, e17, e18, e19, e20, e21, e22] = .vals [.lst true [.str "both", .str "needed", .str "enough"]] := by
    simp [eA, lC, lN, eC, gLst, le_size]
  unfold Lw12
  rw [sFor_of a1 (xs := [.str "both", .str "needed", .str "enough"]) rfl rfl]
  exact s
theorem cleans_app : ∀ (xs ys : List D), cleans (xs ++ ys) = (cleans xs && cleans ys)
  | [], ys => by simp [cleans]
  | x :: xs, ys => by rw [List.cons_append]; simp only [cleans]; rw [cleans_app xs ys, Bool.and_assoc]
theorem lw13 {t6 : D} {L : List D} {x0 x1 x2 x3 y0 y1 y2 y3 : Rat} (T : Ts N x0 x1 x2 x3 y0 y1 y2 y3) (h6 : t6.fz = tl x0 x1 x2 x3 y0 y1 y2 y3) (hL : ∀ e ∈ L, Ent N e) (hl : L.length ≤ 100) (i : ∀ r ∈ [x0, x1, x2, x3, y0, y1, y2, y3], in01 r) :
    ∃ L', (∀ e ∈ L', Ent2 N e) ∧ Lw13 [e0, e1, e2, e3, e4, e5, some t6, e7, e8, some (.lst true L), e10, e11, e12, e13, e14, e15, e16, e17, e18, e19, e20, e21, e22] =
    .nx [e0, e1, e2, e3, e4, e5, some (tl x0 x1 x2 x3 y0 y1 y2 y3), e7, e8, some (.lst true L'), e10, e11, e12, e13, e14, e15, e16, e17, e18, e19, e20, e21, e22] := by
  have u1 : Sm N 1 1 := Sm.one (by decide)
  have mv := moved_val0 (t := 1) T (u1.mono (by decide))
  have W : ∀ r, r ∈ [x0, x1, x2, x3, y0, y1, y2, y3] → Sm N 100 r → Sm N 1 r := fun r hr h => h.in1 (i r hr)
  have T' : Ts N (x0 - 1) (x1 + 1) (x2 + 1) (x3 - 1) y0 y1 y2 y3 := ⟨T.n0, T.n1, ((W x0 (by simp) T.x0).sub u1).mono (by decide), ((W x1 (by simp) T.x1).add u1).mono (by decide), ((W x2 (by simp) T.x2).add u1).mono (by decide), ((W x3 (by simp) T.x3).sub u1).mono (by decide), T.y0, T.y1, T.y2, T.y3⟩
  have T2 : Ts N y0 y1 y2 y3 x0 x1 x2 x3 := ⟨T.n0, T.n1, T.y0, T.y1, T.y2, T.y3, T.x0, T.x1, T.x2, T.x3⟩
  refine ⟨fzs L ++ [.lst true [.lst false [qd x0, qd x1, qd x2, qd x3]], .lst true [.lst false [qd x0, qd x1, qd x2, qd x3], .lst true [qd y1, qd y2, qd y3]], .lst true [.lst false [qd y0, qd y1, qd y2, qd y3], .lst false [qd x0, qd x1, qd x2, qd x3]], .lst true [.lst true [qd (x0 - 1), qd (x1 + 1), qd (x2 + 1), qd (x3 - 1)], .lst true [qd y0, qd y1, qd y2, qd y3]]], ?_, ?_⟩
  · intro e he
    rcases List.mem_append.mp he with he | he
    · rw [fzs_eq] at he
      obtain ⟨e1, m, rfl⟩ := List.mem_map.mp he
      obtain ⟨x0, x1, x2, x3, y0, y1, y2, y3, h, t⟩ := hL e1 m
      exact .inl ⟨x0, x1, x2, x3, y0, y1, y2, y3, by rw [h, tl_fz], t⟩
    · simp only [List.mem_cons, List.not_mem_nil, or_false] at he
      rcases he with rfl | rfl | rfl | rfl
      · exact .inr (.inl ⟨x0, x1, x2, x3, by simp [D.fz, fzs, fz_qd]⟩)
      · exact .inr (.inr ⟨x0, x1, x2, x3, y1, y2, y3, by simp [D.fz, fzs, fz_qd]⟩)
      · exact .inl ⟨_, _, _, _, _, _, _, _, by simp [tl, D.fz, fzs, fz_qd], T2⟩
      · exact .inl ⟨_, _, _, _, _, _, _, _, by simp [tl, D.fz, fzs, fz_qd], T'⟩
  · have ca : ∀ p q : D, cutD [p, q] none (some 1) = [p] := fun _ _ => rfl
    have cb : ∀ p q r s : D, cutD [p, q, r, s] (some 1) none = [q, r, s] := fun _ _ _ _ => rfl
    have fl : (fzs L).length = L.length := by rw [fzs_eq, List.length_map]
    have ls : L.length + 4 ≤ sizeLine := le_size (by omega)
    unfold tl at mv h6
    unfold Lw13 tl
    simp [sSet, sAsg, mE, eF, eA, lC, lN, eV, eC, eNo, eInt, gSl, sPart, ca, cb, gIx_lst, atI, ixN, h6, D.fz, fzs, fz_qd, qd1, mv, gLst, gTup, le_size, gAdd, fl, ls, cleans_app, D.clean, cleans, frz, fzAt, Tg.put]
theorem lw14 (G : Gd N a b c d z o) {r7 : D} (h7 : r7.fz = rc a b c d z o) {L : List D} (hL : ∀ e ∈ L, Ent2 N e) :
    ∃ L9 e18', Lw14 [e0, e1, e2, e3, e4, e5, e6, some r7, e8, some (.lst true L), e10, e11, e12, e13, e14, e15, e16, e17, e18, e19, e20, e21, e22] =
    .nx [e0, e1, e2, e3, e4, e5, e6, some r7, e8, L9, e10, e11, e12, e13, e14, e15, e16, e17, e18', e19, e20, e21, e22] := by
  have cm : ∀ e ∈ cutD (fzs L) none (some 30), Ent2 N e := by
    intro e he
    have : e ∈ fzs L := List.mem_of_mem_drop (List.mem_of_mem_take he)
    rw [fzs_eq] at this
    obtain ⟨e1, m, rfl⟩ := List.mem_map.mp this
    rcases hL e1 m with ⟨x0, x1, x2, x3, y0, y1, y2, y3, h, t⟩ | ⟨x0, x1, x2, x3, h⟩ | ⟨x0, x1, x2, x3, y1, y2, y3, h⟩
    · exact .inl ⟨x0, x1, x2, x3, y0, y1, y2, y3, by rw [h, tl_fz], t⟩
    · exact .inr (.inl ⟨x0, x1, x2, x3, by rw [h]; simp [D.fz, fzs, fz_qd]⟩)
    · exact .inr (.inr ⟨x0, x1, x2, x3, y1, y2, y3, by rw [h]; simp [D.fz, fzs, fz_qd]⟩)
  generalize hC : cutD (fzs L) none (some 30) = C at cm
  have put18' := put18
  by_cases hc : C.all D.clean = true
  all_goals
    obtain ⟨f18, s⟩ := b5_loop (e0 := e0) (e1 := e1) (e2 := e2) (e3 := e3) (e4 := e4) (e5 := e5) (e6 := e6) (e8 := e8) (e9 := some (.lst (cleans [.lst true C]) (if cleans [.lst true C] = true then L else fzs L))) (e10 := e10) (e11 := e11) (e12 := e12) (e13 := e13) (e14 := e14) (e15 := e15) (e16 := e16) (e17 := e17) (e19 := e19) (e20 := e20) (e21 := e21) (e22 := e22) G h7 C cm e18
    refine ⟨some (.lst (cleans [.lst true C]) (if cleans [.lst true C] = true then L else fzs L)), f18, ?_⟩
    rw [← s]
    unfold Lw14 sFor
    by_cases q : cleans [D.lst true C] = true
    · simp [eA, lC, lN, eV, eC, eNo, eInt, gSl, sPart, D.fz, hC, giSeq, seqOf, q]
    · simp [eA, lC, lN, eV, eC, eNo, eInt, gSl, sPart, D.fz, hC, giSeq, seqOf, q, frz, fzAt]
theorem lw15 {r7 : D} (h7 : r7.fz = rc a b c d z o) :
    Lw15 [e0, e1, e2, e3, e4, e5, e6, some r7, e8, e9, e10, e11, e12, e13, e14, e15, e16, e17, e18, e19, e20, e21, e22] =
    .nx [e0, e1, e2, e3, e4, e5, e6, some (rc a b c d z o), e8, e9, e10, e11, e12, e13, e14, e15, e16, e17, some (qd o), e19, some (.lst false [.lst false [qd a, qd b], .lst false [qd c, qd d]]), some (qd z), e22] := by
  unfold Lw15
  simp only [rc] at h7
  simp [sAsg, mE, eV, h7, D.clean, cleans, frz, fzAt, Tg.put, tgPuts, rc]
def bads (a b c d z o : Rat) : List D := [.tup [.lst true [.lst false [qd a, qd b]], qd z, qd o], .tup [.lst true [.lst true [.tup [.int 2, .int 4], .tup [.int 0, .int 1]], .lst true [.tup [.int 1, .int 2], .tup [.int 0, .int 1]]], qd z, qd o], .tup [.lst false [.lst false [qd a, qd b], .lst false [qd c, qd d]], .tup [.int 3, .int 2], qd o], .tup [.lst false [.lst false [qd a, qd b], .lst false [qd c, qd d]], qd z, .tup [.int (-1), .int 2]]]
theorem lw16 :
    Lw16 [e0, e1, e2, e3, e4, e5, e6, e7, e8, e9, e10, e11, e12, e13, e14, e15, e16, e17, some (qd o), e19, some (.lst false [.lst false [qd a, qd b], .lst false [qd c, qd d]]), some (qd z), e22] =
    .nx [e0, e1, e2, e3, e4, e5, e6, e7, e8, e9, e10, e11, e12, e13, e14, e15, e16, e17, some (qd o), e19, some (.lst false [.lst false [qd a, qd b], .lst false [qd c, qd d]]), some (qd z), some (.lst true (bads a b c d z o))] := by
  unfold Lw16 bads
  simp [sSet, sAsg, mE, eA, lC, lN, eV, eC, gNeg, gIx_lst, atI, ixN, D.fz, fzs, fz_qd, gLst, gTup, le_size, D.clean, cleans, frz, fzAt, Tg.put]
theorem gNe_si {x : Str} {i : Int} (h : PyData.strOk x = true) : gNe [.tup [.str x, .int i], .tup [.str x, .int i]] = .val (.bl false) := by
  simp [gNe, okD, toPy, toPys, SeqAt.shaped, PyData.canLay0, PyData.canLayAll0, PyData.depth, PyData.depthAll, dEq, PyData.eqv, PyData.eqvAll, h]
theorem gNe_rec : gNe [.tup [.str "record", .int 0], .tup [.str "record", .int 0]] = .val (.bl false) := gNe_si (by decide +kernel)
theorem gNe_unf : gNe [.tup [.str "unfit", .int 0], .tup [.str "unfit", .int 0]] = .val (.bl false) := gNe_si (by decide +kernel)
theorem b6_step {y : D} (hy : y.fz = y) (h : F_l_word [y] = .val (.tup [.str "record", .int 0])) :
    B_law_6 [e0, e1, e2, e3, e4, e5, e6, e7, e8, e9, e10, e11, e12, e13, e14, e15, some y, e17, e18, e19, e20, e21, e22] = .nx [e0, e1, e2, e3, e4, e5, e6, e7, e8, e9, e10, e11, e12, e13, e14, e15, some y, e17, e18, e19, e20, e21, e22] := by
  unfold B_law_6
  simp [sIf, sNx, eF, eA, lC, lN, eV, eC, hy, fzs, h, gTup, le_size, gNe_rec]
theorem b6_loop : ∀ (ys : List D) (h : ∀ y ∈ ys, y.fz = y ∧ F_l_word [y] = .val (.tup [.str "record", .int 0])) (e16 : Option D), ∃ e16', forL (Tg.put (.nm 16)) B_law_6 ys
    [e0, e1, e2, e3, e4, e5, e6, e7, e8, e9, e10, e11, e12, e13, e14, e15, e16, e17, e18, e19, e20, e21, e22] = .nx [e0, e1, e2, e3, e4, e5, e6, e7, e8, e9, e10, e11, e12, e13, e14, e15, e16', e17, e18, e19, e20, e21, e22]
  | [], _, e16 => ⟨e16, rfl⟩
  | y :: ys, h, e16 => by
    obtain ⟨f, s⟩ := b6_loop ys (fun q hq => h q (List.mem_cons_of_mem _ hq)) (some y)
    refine ⟨f, ?_⟩
    rw [forL, ← s]
    simp only [put16, List.set_cons_succ, List.set_cons_zero]
    rw [b6_step (h y List.mem_cons_self).1 (h y List.mem_cons_self).2]
theorem lw17 (G : Gd N a b c d z o) : ∃ e16' e22',
    Lw17 [e0, e1, e2, e3, e4, e5, e6, e7, e8, e9, e10, e11, e12, e13, e14, e15, e16, e17, some (qd o), e19, some (.lst false [.lst false [qd a, qd b], .lst false [qd c, qd d]]), some (qd z), some (.lst true (bads a b c d z o))] =
    .nx [e0, e1, e2, e3, e4, e5, e6, e7, e8, e9, e10, e11, e12, e13, e14, e15, e16', e17, some (qd o), e19, some (.lst false [.lst false [qd a, qd b], .lst false [qd c, qd d]]), some (qd z), e22'] := by
  obtain ⟨f, s⟩ := b6_loop (e0 := e0) (e1 := e1) (e2 := e2) (e3 := e3) (e4 := e4) (e5 := e5) (e6 := e6) (e7 := e7) (e8 := e8) (e9 := e9) (e10 := e10) (e11 := e11) (e12 := e12) (e13 := e13) (e14 := e14) (e15 := e15) (e17 := e17) (e18 := some (qd o)) (e19 := e19) (e20 := some (.lst false [.lst false [qd a, qd b], .lst false [qd c, qd d]])) (e21 := some (qd z)) (e22 := some (.lst false (fzs (bads a b c d z o)))) [.tup [.lst false [.lst false [qd a, qd b]], qd z, qd o], .tup [.lst false [.lst false [.tup [.int 2, .int 4], .tup [.int 0, .int 1]], .lst false [.tup [.int 1, .int 2], .tup [.int 0, .int 1]]], qd z, qd o], rc a b c d (3 / 2) o, rc a b c d z (-1 / 2), rc (1 / 2) (1 / 2) (1 / 2) 0 z o] (by
    intro y hy
    simp only [List.mem_cons, List.not_mem_nil, or_false] at hy
    rcases hy with rfl | rfl | rfl | rfl | rfl
    · exact ⟨by simp [D.fz, fzs, fz_qd], bad1⟩
    · exact ⟨by simp [D.fz, fzs, fz_qd], bad2⟩
    · exact ⟨rc_fz .., bad3 G⟩
    · exact ⟨rc_fz .., bad4 G⟩
    · exact ⟨rc_fz .., bad5⟩) e16
  refine ⟨f, some (.lst false (fzs (bads a b c d z o))), ?_⟩
  rw [← s]
  unfold Lw17 sFor bads rc
  rw [← q32, ← qm12, ← qhalf, ← qd0]
  simp [eA, lC, lN, eV, eC, D.fz, fzs, fz_qd, gLst, gTup, gAdd, le_size, giSeq, seqOf, D.clean, cleans, frz, fzAt]
end
end DL

set_option Elab.async false
set_option linter.all false
set_option maxRecDepth 100000
set_option maxHeartbeats 2000000
namespace DL
open PySem PySem.Spec L2
open PyProof.Rows hiding St
section
variable {N : Nat} {a b c d z o : Rat} {e0 e1 e2 e3 e4 e5 e6 e7 e8 e9 e10 e11 e12 e13 e14 e15 e16 e17 e18 e19 e20 e21 e22 : Option D}
theorem q130 : D.tup [.int 1, .int 30] = qd (1 / 30) := by
  have h1 : ((1 : Rat) / 30).num = 1 := by decide +kernel
  have h2 : ((1 : Rat) / 30).den = 30 := by decide +kernel
  simp [qd, h1, h2]
theorem sm_30 : Sm (N * 30) 100 (1 / 30) := by
  refine ⟨⟨N, ?_⟩, by decide +kernel, by decide +kernel⟩
  rw [Rat.natCast_mul, Rat.intCast_natCast]
  grind
theorem b7_step {w : Rat} (hw : Sz w) (h : in01 w → F_l_word [rc a b c d z w] = .val (.tup [.str "unfit", .int 0])) :
    B_law_7 [e0, e1, e2, e3, e4, e5, e6, e7, e8, e9, e10, e11, e12, e13, e14, e15, some (qd w), e17, e18, e19, some (.lst false [.lst false [qd a, qd b], .lst false [qd c, qd d]]), some (qd z), e22] =
    .nx [e0, e1, e2, e3, e4, e5, e6, e7, e8, e9, e10, e11, e12, e13, e14, e15, some (qd w), e17, e18, e19, some (.lst false [.lst false [qd a, qd b], .lst false [qd c, qd d]]), some (qd z), e22] := by
  have l := l_less_val (a := 1) (b := w) ⟨by decide +kernel, by decide +kernel⟩ hw
  have nn := Rat.num_nonneg (q := w)
  unfold B_law_7
  by_cases h0 : 0 ≤ w.num
  · by_cases h1 : 1 < w
    · rw [decide_eq_true h1] at l
      simp [mMeth, gAppend, keysOf, getP, pathL, putP, eLc2, lcL2, sFor, forL, giSeq, giRng1, giRng2, giEnum, seqOf, eLc, lcL, wipeE, cYes, gLen, gAll, blsOf, sRaise, fz_qd, cln_qd, qd0, qd1, gNe_str, gEq_str, gIsN_non, gIsN_tup, gIsN_lst, gNotN_non, gNotN_tup, gNotN_lst, runF, sSeq, sIf, sNx, sPar, sSet, sAsg, sRet, sDrop, eA, eF, eC, eV, eOr, eAnd, eNot, eIf, lC, lN, mE, mV, mC, mN, mTup, mLst, Tg.put, tgPuts, D.fz, fzs, D.clean, cleans, frz, fzAt, le_size, lt_size, gLt_val, gGt_val, gLe_val, gGe_val, gSub_val, gNe_int, gEq_int, gEq_qd, gNe_qd, gAdd, gNeg, gGcd, gTup, gLst, gIx_tup, gIx_lst, gIx_scr, gIx_q0, gIx_q1, num_neg, num_zero, gNe_bl, gEq_bl, gIsN_qd, gNotN_qd, gInt, gAbs, atI, ixN, h0, l]
    · rw [decide_eq_false h1] at l
      have k := h ⟨nn.mp h0, by grind⟩
      unfold rc at k
      simp [mMeth, gAppend, keysOf, getP, pathL, putP, eLc2, lcL2, sFor, forL, giSeq, giRng1, giRng2, giEnum, seqOf, eLc, lcL, wipeE, cYes, gLen, gAll, blsOf, sRaise, fz_qd, cln_qd, qd0, qd1, gNe_str, gEq_str, gIsN_non, gIsN_tup, gIsN_lst, gNotN_non, gNotN_tup, gNotN_lst, runF, sSeq, sIf, sNx, sPar, sSet, sAsg, sRet, sDrop, eA, eF, eC, eV, eOr, eAnd, eNot, eIf, lC, lN, mE, mV, mC, mN, mTup, mLst, Tg.put, tgPuts, D.fz, fzs, D.clean, cleans, frz, fzAt, le_size, lt_size, gLt_val, gGt_val, gLe_val, gGe_val, gSub_val, gNe_int, gEq_int, gEq_qd, gNe_qd, gAdd, gNeg, gGcd, gTup, gLst, gIx_tup, gIx_lst, gIx_scr, gIx_q0, gIx_q1, num_neg, num_zero, gNe_bl, gEq_bl, gIsN_qd, gNotN_qd, gInt, gAbs, atI, ixN, h0, l, k, gNe_unf]
  · simp [mMeth, gAppend, keysOf, getP, pathL, putP, eLc2, lcL2, sFor, forL, giSeq, giRng1, giRng2, giEnum, seqOf, eLc, lcL, wipeE, cYes, gLen, gAll, blsOf, sRaise, fz_qd, cln_qd, qd0, qd1, gNe_str, gEq_str, gIsN_non, gIsN_tup, gIsN_lst, gNotN_non, gNotN_tup, gNotN_lst, runF, sSeq, sIf, sNx, sPar, sSet, sAsg, sRet, sDrop, eA, eF, eC, eV, eOr, eAnd, eNot, eIf, lC, lN, mE, mV, mC, mN, mTup, mLst, Tg.put, tgPuts, D.fz, fzs, D.clean, cleans, frz, fzAt, le_size, lt_size, gLt_val, gGt_val, gLe_val, gGe_val, gSub_val, gNe_int, gEq_int, gEq_qd, gNe_qd, gAdd, gNeg, gGcd, gTup, gLst, gIx_tup, gIx_lst, gIx_scr, gIx_q0, gIx_q1, num_neg, num_zero, gNe_bl, gEq_bl, gIsN_qd, gNotN_qd, gInt, gAbs, atI, ixN, h0]
theorem lw18 (G : Gd N a b c d z o) (hN : N * 30 ≤ 1000000) : ∃ e16' e20',
    Lw18 [e0, e1, e2, e3, e4, e5, e6, e7, e8, e9, e10, e11, e12, e13, e14, e15, e16, e17, e18, e19, some (.lst false [.lst false [qd a, qd b], .lst false [qd c, qd d]]), some (qd z), e22] =
    .nx [e0, e1, e2, e3, e4, e5, e6, e7, e8, e9, e10, e11, e12, e13, e14, e15, e16', e17, e18, e19, e20', some (qd z), e22] := by
  have R := G.R.lift (k := 30) (by decide) hN
  have t := sm_30 (N := N)
  have w1 := R.d.sub t
  have w2 := ((R.d.add R.a).add R.b).add t
  have Z1 := w1.z R.n0 (by decide) R.n1
  have Z2 := w2.z R.n0 (by decide) R.n1
  have m := l_minus_val (R.d.z R.n0 (by decide) R.n1) (t.z R.n0 (by decide) R.n1)
  have s4 := l_sum4_val R.n0 R.n1 R.d R.a R.b t
  have h1 : in01 (d - 1 / 30) → F_l_word [rc a b c d z (d - 1 / 30)] = .val (.tup [.str "unfit", .int 0]) := fun i =>
    unfit_of G R.n1 ⟨R.n0, R.n1, R.a, R.b, R.c, R.d, R.z, (w1.in1 i).mono (by decide)⟩ i (.inl (by grind))
  have h2 : in01 (d + a + b + 1 / 30) → F_l_word [rc a b c d z (d + a + b + 1 / 30)] = .val (.tup [.str "unfit", .int 0]) := fun i =>
    unfit_of G R.n1 ⟨R.n0, R.n1, R.a, R.b, R.c, R.d, R.z, (w2.in1 i).mono (by decide)⟩ i (.inr (by grind))
  have s1 := b7_step (e0 := e0) (e1 := e1) (e2 := e2) (e3 := e3) (e4 := e4) (e5 := e5) (e6 := e6) (e7 := e7) (e8 := e8) (e9 := e9) (e10 := e10) (e11 := e11) (e12 := e12) (e13 := e13) (e14 := e14) (e15 := e15) (e17 := e17) (e18 := e18) (e19 := e19) (e22 := e22) Z1 h1
  have s2 := b7_step (e0 := e0) (e1 := e1) (e2 := e2) (e3 := e3) (e4 := e4) (e5 := e5) (e6 := e6) (e7 := e7) (e8 := e8) (e9 := e9) (e10 := e10) (e11 := e11) (e12 := e12) (e13 := e13) (e14 := e14) (e15 := e15) (e17 := e17) (e18 := e18) (e19 := e19) (e22 := e22) Z2 h2
  refine ⟨some (qd (d + a + b + 1 / 30)), some (.lst false [.lst false [qd a, qd b], .lst false [qd c, qd d]]), ?_⟩
  unfold Lw18 sFor
  simp only [put16]
  simp [eF, eA, lC, lN, eV, eC, gIx_lst, atI, ixN, D.fz, fzs, fz_qd, gLst, gTup, le_size, giSeq, seqOf, D.clean, cleans, cln_qd, q130, m, s4, forL, s1, s2]
theorem lw19 (R : Rs N a b c d z o) :
    Lw19 [e0, e1, e2, e3, e4, e5, e6, some (rc a b c d z o), some (.str (dRepr (rc a b c d z o))), e9, e10, e11, e12, e13, e14, e15, e16, e17, e18, e19, e20, e21, e22] = .ret (.bl true) := by
  have h := repr_rc R
  unfold Lw19
  simp [sRet, mE, eA, lC, lN, eV, eC, D.fz, rc_fz, h, gEq_str]
theorem sm1_of {r : Rat} (h : ∃ k : Int, r * (N : Rat) = (k : Rat)) (i : in01 r) : Sm N 1 r := ⟨h, by simpa using i.2, by have := i.1; simp; grind⟩
theorem dv_pos {S : Nat} (h0 : S ≠ 0) {p : Int} (h : 0 ≤ p) (h1 : p ≤ S) : in01 (Rat.divInt p S) ∧ Sm (4 * S) 100 (Rat.divInt p S) := by
  have e := divInt_on (t := p) h0
  have np : (0 : Rat) < (S : Rat) := by exact_mod_cast Nat.pos_of_ne_zero h0
  have q0 : (0 : Rat) ≤ (p : Rat) := by exact_mod_cast h
  have q1 : (p : Rat) ≤ (S : Rat) := by rw [← Rat.intCast_natCast]; exact_mod_cast h1
  have i : in01 (Rat.divInt p S) := by
    constructor
    · exact Rat.le_of_mul_le_mul_right (by rw [e]; grind) np
    · exact Rat.le_of_mul_le_mul_right (by rw [e]; grind) np
  refine ⟨i, ?_⟩
  have : Sm S 1 (Rat.divInt p S) := sm1_of ⟨p, e⟩ i
  have := this.lift (k := 4)
  rw [Nat.mul_comm] at this
  exact this.mono (by decide)
end
end DL
namespace DL
open PySem PySem.Spec L2
open PyProof.Rows hiding St
theorem F_law_true (ns : List Int) (h : ns.length ≤ 63) : F_law [.scr ns] = .val (.bl true) := by
  obtain ⟨ds, e, hb, hl⟩ := draws_val ns h
  have r1 : Lw1 [some (.scr ns), none, none, none, none, none, none, none, none, none, none, none, none, none, none, none, none, none, none, none, none, none, none] =
      .nx [some (.scr ns), some (.lst true (ds.map D.int)), none, none, none, none, none, none, none, none, none, none, none, none, none, none, none, none, none, none, none, none, none] := by
    have cl : cleans (ds.map D.int) = true := by
      clear hl hb e
      induction ds with
      | nil => rfl
      | cons x xs ih => simp only [List.map_cons, cleans, D.clean, ih, Bool.and_self]
    unfold Lw1
    simp [sSet, sAsg, mE, eF, eA, lC, lN, eV, D.fz, fzs, e, D.clean, cl, Tg.put]
  obtain ⟨a0, a1, a2, a3, a4, a5, a6, a7, A, r2⟩ := lw2 (e0 := some (.scr ns)) (e4 := none) (e5 := none) (e6 := none) (e7 := none) (e8 := none) (e9 := none) (e10 := none) (e11 := none) (e12 := none) (e13 := none) (e14 := none) (e15 := none) (e16 := none) (e17 := none) (e18 := none) (e19 := none) (e20 := none) (e21 := none) (e22 := none) ds hb
  obtain ⟨b2, b6, B, r3⟩ := lw3 (e0 := some (.scr ns)) (e3 := none) (e4 := none) (e5 := none) (e6 := none) (e7 := none) (e8 := none) (e9 := none) (e10 := none) (e11 := none) (e12 := none) (e13 := none) (e14 := none) (e15 := none) (e16 := none) (e17 := none) (e18 := none) (e19 := none) (e20 := none) (e21 := none) (e22 := none) (p0 := a0) (p1 := a1) (p3 := a3) (p4 := a4) (p5 := a5) (p7 := a7) ds hb A.2.2.1 A.2.2.2.2.2.2.1
  obtain ⟨q0, q1, q2, q3, q4, q5, q6, q7, Q, Qs, r4⟩ := lw4 (e0 := some (.scr ns)) (e3 := none) (e4 := none) (e5 := none) (e6 := none) (e7 := none) (e8 := none) (e9 := none) (e10 := none) (e11 := none) (e12 := none) (e13 := none) (e14 := none) (e15 := none) (e16 := none) (e17 := none) (e18 := none) (e19 := none) (e20 := none) (e21 := none) (e22 := none) (p0 := a0) (p1 := a1) (p2 := b2) (p3 := a3) (p4 := a4) (p5 := a5) (p6 := b6) (p7 := a7) ds hb ⟨A.1, A.2.1, B.1, A.2.2.2.1, A.2.2.2.2.1, A.2.2.2.2.2.1, B.2, A.2.2.2.2.2.2.2⟩
  unfold P8 at Q
  obtain ⟨S, hS⟩ : ∃ S : Nat, (S : Int) = q0 + (q1 + (q2 + (q3 + (q4 + (q5 + (q6 + q7)))))) := ⟨(q0 + (q1 + (q2 + (q3 + (q4 + (q5 + (q6 + q7))))))).toNat, by omega⟩
  have S0 : S ≠ 0 := by omega
  have S1 : S ≤ 64 := by omega
  have S9 : S < 2 ^ 900 := Nat.lt_of_le_of_lt S1 (by decide +kernel)
  have r5 := lw5 (e0 := some (.scr ns)) (e1 := some (.lst true (ds.map D.int))) (e3 := none) (e4 := none) (e5 := none) (e6 := none) (e7 := none) (e8 := none) (e9 := none) (e10 := none) (e11 := none) (e12 := none) (e13 := none) (e14 := none) (e15 := none) (e16 := none) (e17 := none) (e18 := none) (e19 := none) (e20 := none) (e21 := none) (e22 := none) hS S0 S9
  obtain ⟨i0, s0⟩ := dv_pos S0 (p := q0) (by omega) (by omega)
  obtain ⟨i1, s1⟩ := dv_pos S0 (p := q1) (by omega) (by omega)
  obtain ⟨i2, s2⟩ := dv_pos S0 (p := q2) (by omega) (by omega)
  obtain ⟨i3, s3⟩ := dv_pos S0 (p := q3) (by omega) (by omega)
  obtain ⟨i4, s4⟩ := dv_pos S0 (p := q4) (by omega) (by omega)
  obtain ⟨i5, s5⟩ := dv_pos S0 (p := q5) (by omega) (by omega)
  obtain ⟨i6, s6⟩ := dv_pos S0 (p := q6) (by omega) (by omega)
  obtain ⟨i7, s7⟩ := dv_pos S0 (p := q7) (by omega) (by omega)
  have d0 := divInt_on (t := q0) S0
  have d1 := divInt_on (t := q1) S0
  have d2 := divInt_on (t := q2) S0
  have d3 := divInt_on (t := q3) S0
  have d4 := divInt_on (t := q4) S0
  have d5 := divInt_on (t := q5) S0
  have d6 := divInt_on (t := q6) S0
  have d7 := divInt_on (t := q7) S0
  have zz : ∀ q : Int, q = 0 → Rat.divInt q S = 0 := fun q hq => by subst hq; exact Rat.zero_divInt _
  have z2 := zz q2
  have z6 := zz q6
  generalize Rat.divInt q0 S = x0 at *
  generalize Rat.divInt q1 S = x1 at *
  generalize Rat.divInt q2 S = x2 at *
  generalize Rat.divInt q3 S = x3 at *
  generalize Rat.divInt q4 S = y0 at *
  generalize Rat.divInt q5 S = y1 at *
  generalize Rat.divInt q6 S = y2 at *
  generalize Rat.divInt q7 S = y3 at *
  have sum1 : x0 + x1 + x2 + x3 + y0 + y1 + y2 + y3 = 1 := by
    have np : (S : Rat) ≠ 0 := by exact_mod_cast S0
    have hq : ((S : Int) : Rat) = ((q0 + (q1 + (q2 + (q3 + (q4 + (q5 + (q6 + q7)))))) : Int) : Rat) := by rw [hS]
    simp only [Rat.intCast_add, Rat.intCast_natCast] at hq
    have : (x0 + x1 + x2 + x3 + y0 + y1 + y2 + y3) * (S : Rat) = 1 * (S : Rat) := by grind
    have := congrArg (· / (S : Rat)) this
    simp only [Rat.mul_div_cancel np] at this
    exact this
  have T : Ts (4 * S) x0 x1 x2 x3 y0 y1 y2 y3 := ⟨by omega, by omega, s0, s1, s2, s3, s4, s5, s6, s7⟩
  obtain ⟨i00, i01⟩ := i0
  obtain ⟨i10, i11⟩ := i1
  obtain ⟨i20, i21⟩ := i2
  obtain ⟨i30, i31⟩ := i3
  obtain ⟨i40, i41⟩ := i4
  obtain ⟨i50, i51⟩ := i5
  obtain ⟨i60, i61⟩ := i6
  obtain ⟨i70, i71⟩ := i7
  have all01 : ∀ r ∈ [x0, x1, x2, x3, y0, y1, y2, y3], in01 r := by
    intro r hr
    simp only [List.mem_cons, List.not_mem_nil, or_false] at hr
    unfold in01
    rcases hr with rfl | rfl | rfl | rfl | rfl | rfl | rfl | rfl <;> constructor <;> assumption
  have U : ∀ r, r ∈ [x0, x1, x2, x3, y0, y1, y2, y3] → Sm (4 * S) 100 r → Sm (4 * S) 1 r := fun r hr h => h.in1 (all01 r hr)
  have U0 := U x0 (by simp) s0
  have U1 := U x1 (by simp) s1
  have U2 := U x2 (by simp) s2
  have U3 := U x3 (by simp) s3
  have V0 := U y0 (by simp) s4
  have V1 := U y1 (by simp) s5
  have V2 := U y2 (by simp) s6
  have V3 := U y3 (by simp) s7
  have G : Gd (4 * S) (x0 + x1) (x2 + x3) (y0 + y2) (y1 + y3) (x2 + x3 + y2 + y3) (x1 + x3 + y1 + y3) := {
    R := ⟨by omega, by omega, (U0.add U1).mono (by decide), (U2.add U3).mono (by decide), (V0.add V2).mono (by decide), (V1.add V3).mono (by decide), (((U2.add U3).add V2).add V3).mono (by decide), (((U1.add U3).add V1).add V3).mono (by decide)⟩
    ia := ⟨by grind, by grind⟩
    ib := ⟨by grind, by grind⟩
    ic := ⟨by grind, by grind⟩
    id := ⟨by grind, by grind⟩
    iz := ⟨by grind, by grind⟩
    io := ⟨by grind, by grind⟩
    s := by grind
    f0 := by grind
    f1 := by grind
    f2 := by grind
    f3 := by grind }
  have k0 : okT (x0 + x1) (x2 + x3) (y0 + y2) (y1 + y3) (x2 + x3 + y2 + y3) (x1 + x3 + y1 + y3) x0 x1 x2 x3 y0 y1 y2 y3 := ⟨all01, ⟨⟨rfl, rfl⟩, rfl, rfl⟩, rfl, rfl⟩
  have r6 := lw6 (e0 := some (.scr ns)) (e1 := some (.lst true (ds.map D.int))) (e2 := some (.lst true [.int q0, .int q1, .int q2, .int q3, .int q4, .int q5, .int q6, .int q7])) (e3 := none) (e5 := none) (e6 := none) (e7 := none) (e8 := none) (e9 := none) (e10 := none) (e11 := none) (e12 := none) (e13 := none) (e14 := none) (e15 := none) (e16 := none) (e17 := none) (e18 := none) (e19 := none) (e20 := none) (e21 := none) (e22 := none) (x0 := x0) (x1 := x1) (x2 := x2) (x3 := x3) (y0 := y0) (y1 := y1) (y2 := y2) (y3 := y3)
  generalize hF : some (D.lst true [qd x0, qd x1, qd x2, qd x3, qd y0, qd y1, qd y2, qd y3]) = f4 at r5 r6
  have r7 := lw7 (e0 := some (.scr ns)) (e1 := some (.lst true (ds.map D.int))) (e2 := some (.lst true [.int q0, .int q1, .int q2, .int q3, .int q4, .int q5, .int q6, .int q7])) (e3 := none) (e4 := f4) (e5 := none) (e7 := none) (e8 := none) (e9 := none) (e10 := none) (e11 := none) (e12 := none) (e13 := none) (e14 := none) (e15 := none) (e16 := none) (e17 := none) (e18 := none) (e19 := none) (e20 := none) (e21 := none) (e22 := none) T
  have h7 := rct_fz x0 x1 x2 x3 y0 y1 y2 y3
  have h6 : (D.lst true [.lst true [qd x0, qd x1, qd x2, qd x3], .lst true [qd y0, qd y1, qd y2, qd y3]]).fz = tl x0 x1 x2 x3 y0 y1 y2 y3 := by simp [tl, D.fz, fzs, fz_qd]
  generalize hT : D.lst true [.lst true [qd x0, qd x1, qd x2, qd x3], .lst true [qd y0, qd y1, qd y2, qd y3]] = t6 at r6 r7 h6
  generalize hR : rct x0 x1 x2 x3 y0 y1 y2 y3 = rr at r7 h7
  have r8 := lw8 (e0 := some (.scr ns)) (e1 := some (.lst true (ds.map D.int))) (e2 := some (.lst true [.int q0, .int q1, .int q2, .int q3, .int q4, .int q5, .int q6, .int q7])) (e3 := none) (e4 := f4) (e5 := none) (e6 := some t6) (e8 := none) (e9 := none) (e10 := none) (e11 := none) (e12 := none) (e13 := none) (e14 := none) (e15 := none) (e16 := none) (e17 := none) (e18 := none) (e19 := none) (e20 := none) (e21 := none) (e22 := none) G.R h7
  generalize hK : some (D.str (dRepr (rc (x0 + x1) (x2 + x3) (y0 + y2) (y1 + y3) (x2 + x3 + y2 + y3) (x1 + x3 + y1 + y3)))) = k8 at r8
  have r9 := lw9 (e0 := some (.scr ns)) (e1 := some (.lst true (ds.map D.int))) (e2 := some (.lst true [.int q0, .int q1, .int q2, .int q3, .int q4, .int q5, .int q6, .int q7])) (e3 := none) (e4 := f4) (e5 := none) (e6 := some t6) (e8 := k8) (e9 := none) (e10 := none) (e11 := none) (e12 := none) (e13 := none) (e14 := none) (e15 := none) (e16 := none) (e17 := none) (e18 := none) (e19 := none) (e20 := none) (e21 := none) (e22 := none) G h7
  have r10 := lw10 (e0 := some (.scr ns)) (e1 := some (.lst true (ds.map D.int))) (e3 := none) (e4 := f4) (e5 := none) (e8 := k8) (e9 := none) (e10 := none) (e11 := none) (e12 := none) (e13 := none) (e14 := none) (e15 := none) (e16 := none) (e17 := none) (e18 := none) (e19 := none) (e20 := none) (e21 := none) (e22 := none) (p0 := q0) (p1 := q1) (p2 := q2) (p3 := q3) (p4 := q4) (p5 := q5) (p6 := q6) (p7 := q7) T G.R h7 h6 (fun u v => by have := z2 u; have := z6 v; grind)
  have hs : gSum [(D.lst true [.int q0, .int q1, .int q2, .int q3, .int q4, .int q5, .int q6, .int q7]).fz] = .val (.int (S : Int)) := by
    simp only [D.fz, fzs]
    rw [gSum8, hS]
  generalize hP : D.lst true [.int q0, .int q1, .int q2, .int q3, .int q4, .int q5, .int q6, .int q7] = P2 at *
  have r11 := lw11 (e0 := some (.scr ns)) (e1 := some (.lst true (ds.map D.int))) (e2 := some P2) (e3 := none) (e4 := f4) (e5 := none) (e7 := some rr) (e8 := k8) (e9 := none) (e10 := none) (e11 := none) (e12 := none) (e13 := none) (e14 := none) (e15 := none) (e16 := none) (e17 := none) (e18 := none) (e19 := none) (e20 := none) (e21 := none) (e22 := none) h6
  have h6' := tl_fz x0 x1 x2 x3 y0 y1 y2 y3
  obtain ⟨L1, f3, f10, f11, f12, f13, f14, f15, f16, f17, g, r12⟩ := lw12 (e0 := some (.scr ns)) (e1 := some (.lst true (ds.map D.int))) (e3 := none) (e4 := f4) (e5 := none) (e8 := k8) (e10 := none) (e11 := none) (e12 := none) (e13 := none) (e14 := none) (e15 := none) (e16 := none) (e17 := none) (e18 := none) (e19 := none) (e20 := none) (e21 := none) (e22 := none) (L := [tl x0 x1 x2 x3 y0 y1 y2 y3]) G T k0 rfl hs h7 h6' (by simp)
  have hL1 : ∀ e ∈ L1, Ent (4 * S) e := by
    intro e he
    rcases g.1 e he with m | m
    · rw [List.mem_singleton] at m
      subst m
      exact ⟨_, _, _, _, _, _, _, _, h6', T⟩
    · exact m
  obtain ⟨L2, hL2, r13⟩ := lw13 (e0 := some (.scr ns)) (e1 := some (.lst true (ds.map D.int))) (e2 := some P2) (e3 := f3) (e4 := f4) (e5 := none) (e7 := some rr) (e8 := k8) (e10 := f10) (e11 := f11) (e12 := f12) (e13 := f13) (e14 := f14) (e15 := f15) (e16 := f16) (e17 := f17) (e18 := none) (e19 := none) (e20 := none) (e21 := none) (e22 := none) T h6' hL1 (by have := g.2; simp at this; omega) all01
  obtain ⟨L9, g18, r14⟩ := lw14 (e0 := some (.scr ns)) (e1 := some (.lst true (ds.map D.int))) (e2 := some P2) (e3 := f3) (e4 := f4) (e5 := none) (e6 := some (tl x0 x1 x2 x3 y0 y1 y2 y3)) (e8 := k8) (e10 := f10) (e11 := f11) (e12 := f12) (e13 := f13) (e14 := f14) (e15 := f15) (e16 := f16) (e17 := f17) (e18 := none) (e19 := none) (e20 := none) (e21 := none) (e22 := none) G h7 hL2
  have r15 := lw15 (e0 := some (.scr ns)) (e1 := some (.lst true (ds.map D.int))) (e2 := some P2) (e3 := f3) (e4 := f4) (e5 := none) (e6 := some (tl x0 x1 x2 x3 y0 y1 y2 y3)) (e8 := k8) (e9 := L9) (e10 := f10) (e11 := f11) (e12 := f12) (e13 := f13) (e14 := f14) (e15 := f15) (e16 := f16) (e17 := f17) (e18 := g18) (e19 := none) (e20 := none) (e21 := none) (e22 := none) h7
  have r19 := fun (u1 u2 u16 u20 u21 u22 : Option D) => lw19 (e0 := some (.scr ns)) (e1 := u1) (e2 := u2) (e3 := f3) (e4 := f4) (e5 := none) (e6 := some (tl x0 x1 x2 x3 y0 y1 y2 y3)) (e9 := L9) (e10 := f10) (e11 := f11) (e12 := f12) (e13 := f13) (e14 := f14) (e15 := f15) (e16 := u16) (e17 := f17) (e18 := some (qd (x1 + x3 + y1 + y3))) (e19 := none) (e20 := u20) (e21 := u21) (e22 := u22) G.R
  rw [hK] at r19
  generalize hA : x0 + x1 = a at *
  generalize hB : x2 + x3 = b at *
  generalize hC : y0 + y2 = c at *
  generalize hD : y1 + y3 = d at *
  generalize hZ : b + y2 + y3 = z at *
  generalize hO : x1 + x3 + y1 + y3 = o at *
  have r16 := lw16 (a := a) (b := b) (c := c) (d := d) (z := z) (o := o) (e0 := some (.scr ns)) (e1 := some (.lst true (ds.map D.int))) (e2 := some P2) (e3 := f3) (e4 := f4) (e5 := none) (e6 := some (tl x0 x1 x2 x3 y0 y1 y2 y3)) (e7 := some (rc a b c d z o)) (e8 := k8) (e9 := L9) (e10 := f10) (e11 := f11) (e12 := f12) (e13 := f13) (e14 := f14) (e15 := f15) (e16 := f16) (e17 := f17) (e19 := none) (e22 := none)
  obtain ⟨h16, h22, r17⟩ := lw17 (e0 := some (.scr ns)) (e1 := some (.lst true (ds.map D.int))) (e2 := some P2) (e3 := f3) (e4 := f4) (e5 := none) (e6 := some (tl x0 x1 x2 x3 y0 y1 y2 y3)) (e7 := some (rc a b c d z o)) (e8 := k8) (e9 := L9) (e10 := f10) (e11 := f11) (e12 := f12) (e13 := f13) (e14 := f14) (e15 := f15) (e16 := f16) (e17 := f17) (e19 := none) G
  obtain ⟨j16, j20, r18⟩ := lw18 (e0 := some (.scr ns)) (e1 := some (.lst true (ds.map D.int))) (e2 := some P2) (e3 := f3) (e4 := f4) (e5 := none) (e6 := some (tl x0 x1 x2 x3 y0 y1 y2 y3)) (e7 := some (rc a b c d z o)) (e8 := k8) (e9 := L9) (e10 := f10) (e11 := f11) (e12 := f12) (e13 := f13) (e14 := f14) (e15 := f15) (e16 := h16) (e17 := f17) (e18 := some (qd o)) (e19 := none) (e22 := h22) G (by omega)
  unfold F_law
  rw [Lw_eq]
  simp only [runF, List.length_cons, List.length_nil, List.map_cons, List.map_nil, if_true, Nat.zero_add, Nat.reduceAdd, Nat.reduceSub, List.reduceReplicate, List.cons_append, List.nil_append]
  rw [sSeq_nx r1, sSeq_nx r2, sSeq_nx r3, sSeq_nx r4, sSeq_nx r5, sSeq_nx r6, sSeq_nx r7, sSeq_nx r8, sSeq_nx r9, sSeq_nx r10, sSeq_nx r11, sSeq_nx r12, sSeq_nx r13, sSeq_nx r14, sSeq_nx r15, sSeq_nx r16, sSeq_nx r17, sSeq_nx r18, r19]
end DL

namespace DL
open PySem PySem.Spec L2
open PyProof.Rows hiding St
theorem end_law {w : World} {K : PySem.W.Frag} {mg : Str → Option Value} {P : Program} {fa : Addr} (T : Txt P K mg) (hfa : mg "law" = some (.ref fa)) {h : Heap} (X : K.In h) (G : h.Ns mainGlobals mg) {f : Addr} {oc : Value} {od an : Option Addr} {osl : Array (Option Value)} {kV doc pm cdv ct : Value} (a : PySem.W.nsIn K mainGlobals "law" = some (some (.ref f))) (l : K.lookup f = some ⟨oc, od, .func (PySem.W.fnOf "law" "law" (defArgs s_law) (defBody s_law) (defScope s_law) .none kV doc pm an cdv ct), osl⟩) (c : PySem.W.codeIn K cdv "law" = true) (k : PySem.W.keepIn K (.ref f) = true) :
    ∃ fd : FuncData, (∀ (s : Shared) (u : Value), BindsTo s fd ⟨[u], []⟩ [("script", u)]) ∧ ∀ base : Heap, K.In base → base.Ns mainGlobals mg → FnG P w K mg base 9 fa fd ["script"] (spD K w mg F_law) := by
  have e := hfa.symm.trans (PySem.W.mg_of X G a)
  cases e
  exact ⟨_, fun s v => .of_eq rfl, fun base _ _ => ok_law T (fun_mk (st := s_law) l c k)⟩
end DL
open PySem PySem.W PyProof.Rows
set_option maxRecDepth 100000 in
set_option maxHeartbeats 0 in
theorem PySem.Challenge.cw_deedroads_k15_whole_ends_of_records_holds : PySem.Challenge.rw_deedroads_k15_whole_ends_of_records.Holds := by
  w_on; o_law; k_head; (case hw => w_witness2)
  k_fill
  refine DL.walk_ofG (l := PySem.Challenge.rw_deedroads_k15_whole_ends_of_records) (n := 63) (k := 9) (x := "script") (F := DL.F_law) rfl (by decide) rfl ⟨rfl, by decide, by decide⟩ (fun w h Y => PySem.W.kIn_of Y) ?G DL.F_law_true
  case G =>
    intro w mg fa h X G hmg
    refine' (fun (d_l_less : DL.DefAt _ mg "_law_less" DL.s_l_less ["one", "two"]) => ?nx1)
      (DL.DefAt.of X G ?a ?l ?c ?k (fun _ _ _ _ _ _ us hl => match us, hl with | [_, _], _ => rfl)); (case a => k_is); (case l => k_is); (case c => k_is); (case k => k_is)
    refine' (fun (d_l_gcd : DL.DefAt _ mg "_law_gcd" DL.s_l_gcd ["one", "two"]) => ?nx2)
      (DL.DefAt.of X G ?a ?l ?c ?k (fun _ _ _ _ _ _ us hl => match us, hl with | [_, _], _ => rfl)); (case a => k_is); (case l => k_is); (case c => k_is); (case k => k_is)
    refine' (fun (d_l_low : DL.DefAt _ mg "_law_low" DL.s_l_low ["number", "by"]) => ?nx3)
      (DL.DefAt.of X G ?a ?l ?c ?k (fun _ _ _ _ _ _ us hl => match us, hl with | [_, _], _ => rfl)); (case a => k_is); (case l => k_is); (case c => k_is); (case k => k_is)
    refine' (fun (d_l_plus : DL.DefAt _ mg "_law_plus" DL.s_l_plus ["one", "two"]) => ?nx4)
      (DL.DefAt.of X G ?a ?l ?c ?k (fun _ _ _ _ _ _ us hl => match us, hl with | [_, _], _ => rfl)); (case a => k_is); (case l => k_is); (case c => k_is); (case k => k_is)
    refine' (fun (d_l_sum : DL.DefAt _ mg "_law_sum" DL.s_l_sum ["told"]) => ?nx5)
      (DL.DefAt.of X G ?a ?l ?c ?k (fun _ _ _ _ _ _ us hl => match us, hl with | [_], _ => rfl)); (case a => k_is); (case l => k_is); (case c => k_is); (case k => k_is)
    refine' (fun (d_l_record : DL.DefAt _ mg "_law_record" DL.s_l_record ["told"]) => ?nx6)
      (DL.DefAt.of X G ?a ?l ?c ?k (fun _ _ _ _ _ _ us hl => match us, hl with | [_], _ => rfl)); (case a => k_is); (case l => k_is); (case c => k_is); (case k => k_is)
    refine' (fun (d_l_are_types : DL.DefAt _ mg "_law_are_types" DL.s_l_are_types ["record", "told"]) => ?nx7)
      (DL.DefAt.of X G ?a ?l ?c ?k (fun _ _ _ _ _ _ us hl => match us, hl with | [_, _], _ => rfl)); (case a => k_is); (case l => k_is); (case c => k_is); (case k => k_is)
    refine' (fun (d_l_minus : DL.DefAt _ mg "_law_minus" DL.s_l_minus ["one", "two"]) => ?nx8)
      (DL.DefAt.of X G ?a ?l ?c ?k (fun _ _ _ _ _ _ us hl => match us, hl with | [_, _], _ => rfl)); (case a => k_is); (case l => k_is); (case c => k_is); (case k => k_is)
    refine' (fun (d_l_bounds : DL.DefAt _ mg "_law_bounds" DL.s_l_bounds ["record"]) => ?nx9)
      (DL.DefAt.of X G ?a ?l ?c ?k (fun _ _ _ _ _ _ us hl => match us, hl with | [_], _ => rfl)); (case a => k_is); (case l => k_is); (case c => k_is); (case k => k_is)
    refine' (fun (d_l_chance : DL.DefAt _ mg "_law_chance" DL.s_l_chance ["told", "word"]) => ?nx10)
      (DL.DefAt.of X G ?a ?l ?c ?k (fun _ _ _ _ _ _ us hl => match us, hl with | [_, _], _ => rfl)); (case a => k_is); (case l => k_is); (case c => k_is); (case k => k_is)
    refine' (fun (d_l_draws : DL.DefAt _ mg "_law_draws" DL.s_l_draws ["script"]) => ?nx11)
      (DL.DefAt.of X G ?a ?l ?c ?k (fun _ _ _ _ _ _ us hl => match us, hl with | [_], _ => rfl)); (case a => k_is); (case l => k_is); (case c => k_is); (case k => k_is)
    refine' (fun (d_l_mix : DL.DefAt _ mg "_law_mix" DL.s_l_mix ["draws", "k", "many"]) => ?nx12)
      (DL.DefAt.of X G ?a ?l ?c ?k (fun _ _ _ _ _ _ us hl => match us, hl with | [_, _, _], _ => rfl)); (case a => k_is); (case l => k_is); (case c => k_is); (case k => k_is)
    refine' (fun (d_l_moved : DL.DefAt _ mg "_law_moved" DL.s_l_moved ["told", "x", "by"]) => ?nx13)
      (DL.DefAt.of X G ?a ?l ?c ?k (fun _ _ _ _ _ _ us hl => match us, hl with | [_, _, _], _ => rfl)); (case a => k_is); (case l => k_is); (case c => k_is); (case k => k_is)
    refine' (fun (d_fraction : DL.DefAt _ mg "fraction" DL.s_fraction ["number", "by"]) => ?nx14)
      (DL.DefAt.of X G ?a ?l ?c ?k (fun _ _ _ _ _ _ us hl => match us, hl with | [_, _], _ => rfl)); (case a => k_is); (case l => k_is); (case c => k_is); (case k => k_is)
    refine' (fun (d_minus : DL.DefAt _ mg "minus" DL.s_minus ["one", "two"]) => ?nx15)
      (DL.DefAt.of X G ?a ?l ?c ?k (fun _ _ _ _ _ _ us hl => match us, hl with | [_, _], _ => rfl)); (case a => k_is); (case l => k_is); (case c => k_is); (case k => k_is)
    refine' (fun (d_gains_of : DL.DefAt _ mg "gains_of" DL.s_gains_of ["record"]) => ?nx16)
      (DL.DefAt.of X G ?a ?l ?c ?k (fun _ _ _ _ _ _ us hl => match us, hl with | [_], _ => rfl)); (case a => k_is); (case l => k_is); (case c => k_is); (case k => k_is)
    refine' (fun (d_is_fraction : DL.DefAt _ mg "is_fraction" DL.s_is_fraction ["told"]) => ?nx17)
      (DL.DefAt.of X G ?a ?l ?c ?k (fun _ _ _ _ _ _ us hl => match us, hl with | [_], _ => rfl)); (case a => k_is); (case l => k_is); (case c => k_is); (case k => k_is)
    refine' (fun (d_is_less : DL.DefAt _ mg "is_less" DL.s_is_less ["one", "two"]) => ?nx18)
      (DL.DefAt.of X G ?a ?l ?c ?k (fun _ _ _ _ _ _ us hl => match us, hl with | [_, _], _ => rfl)); (case a => k_is); (case l => k_is); (case c => k_is); (case k => k_is)
    refine' (fun (d_is_chance : DL.DefAt _ mg "is_chance" DL.s_is_chance ["told"]) => ?nx19)
      (DL.DefAt.of X G ?a ?l ?c ?k (fun _ _ _ _ _ _ us hl => match us, hl with | [_], _ => rfl)); (case a => k_is); (case l => k_is); (case c => k_is); (case k => k_is)
    refine' (fun (d_plus : DL.DefAt _ mg "plus" DL.s_plus ["one", "two"]) => ?nx20)
      (DL.DefAt.of X G ?a ?l ?c ?k (fun _ _ _ _ _ _ us hl => match us, hl with | [_, _], _ => rfl)); (case a => k_is); (case l => k_is); (case c => k_is); (case k => k_is)
    refine' (fun (d_total : DL.DefAt _ mg "total" DL.s_total ["told"]) => ?nx21)
      (DL.DefAt.of X G ?a ?l ?c ?k (fun _ _ _ _ _ _ us hl => match us, hl with | [_], _ => rfl)); (case a => k_is); (case l => k_is); (case c => k_is); (case k => k_is)
    refine' (fun (d_check_record : DL.DefAt _ mg "check_record" DL.s_check_record ["record"]) => ?nx22)
      (DL.DefAt.of X G ?a ?l ?c ?k (fun _ _ _ _ _ _ us hl => match us, hl with | [_], _ => rfl)); (case a => k_is); (case l => k_is); (case c => k_is); (case k => k_is)
    refine' (fun (d_greater : DL.DefAt _ mg "greater" DL.s_greater ["one", "two"]) => ?nx23)
      (DL.DefAt.of X G ?a ?l ?c ?k (fun _ _ _ _ _ _ us hl => match us, hl with | [_, _], _ => rfl)); (case a => k_is); (case l => k_is); (case c => k_is); (case k => k_is)
    refine' (fun (d_lesser : DL.DefAt _ mg "lesser" DL.s_lesser ["one", "two"]) => ?nx24)
      (DL.DefAt.of X G ?a ?l ?c ?k (fun _ _ _ _ _ _ us hl => match us, hl with | [_, _], _ => rfl)); (case a => k_is); (case l => k_is); (case c => k_is); (case k => k_is)
    refine' (fun (d_helped : DL.DefAt _ mg "helped" DL.s_helped ["record"]) => ?nx25)
      (DL.DefAt.of X G ?a ?l ?c ?k (fun _ _ _ _ _ _ us hl => match us, hl with | [_], _ => rfl)); (case a => k_is); (case l => k_is); (case c => k_is); (case k => k_is)
    refine' (fun (d_over : DL.DefAt _ mg "over" DL.s_over ["one", "two"]) => ?nx26)
      (DL.DefAt.of X G ?a ?l ?c ?k (fun _ _ _ _ _ _ us hl => match us, hl with | [_, _], _ => rfl)); (case a => k_is); (case l => k_is); (case c => k_is); (case k => k_is)
    refine' (fun (d_ends_of : DL.DefAt _ mg "ends_of" DL.s_ends_of ["record", "word"]) => ?nx27)
      (DL.DefAt.of X G ?a ?l ?c ?k (fun _ _ _ _ _ _ us hl => match us, hl with | [_, _], _ => rfl)); (case a => k_is); (case l => k_is); (case c => k_is); (case k => k_is)
    refine' (fun (d_ends : DL.DefAt _ mg "ends" DL.s_ends ["record", "word"]) => ?nx28)
      (DL.DefAt.of X G ?a ?l ?c ?k (fun _ _ _ _ _ _ us hl => match us, hl with | [_, _], _ => rfl)); (case a => k_is); (case l => k_is); (case c => k_is); (case k => k_is)
    refine' (fun (d_l_word : DL.DefAt _ mg "_law_word" DL.s_l_word ["record"]) => ?nx29)
      (DL.DefAt.of X G ?a ?l ?c ?k (fun _ _ _ _ _ _ us hl => match us, hl with | [_], _ => rfl)); (case a => k_is); (case l => k_is); (case c => k_is); (case k => k_is)
    refine' (fun (d_are_types : DL.DefAt _ mg "are_types" DL.s_are_types ["record", "told"]) => ?nx30)
      (DL.DefAt.of X G ?a ?l ?c ?k (fun _ _ _ _ _ _ us hl => match us, hl with | [_, _], _ => rfl)); (case a => k_is); (case l => k_is); (case c => k_is); (case k => k_is)
    refine' (fun (d_chance_by : DL.DefAt _ mg "chance_by" DL.s_chance_by ["told", "word"]) => ?nx31)
      (DL.DefAt.of X G ?a ?l ?c ?k (fun _ _ _ _ _ _ us hl => match us, hl with | [_, _], _ => rfl)); (case a => k_is); (case l => k_is); (case c => k_is); (case k => k_is)
    refine' (fun (d_types_with : DL.DefAt _ mg "types_with" DL.s_types_with ["record", "zero", "one"]) => ?nx32)
      (DL.DefAt.of X G ?a ?l ?c ?k (fun _ _ _ _ _ _ us hl => match us, hl with | [_, _, _], _ => rfl)); (case a => k_is); (case l => k_is); (case c => k_is); (case k => k_is)
    refine' (fun (d_types_at : DL.DefAt _ mg "types_at" DL.s_types_at ["record", "word", "end"]) => ?nx33)
      (DL.DefAt.of X G ?a ?l ?c ?k (fun _ _ _ _ _ _ us hl => match us, hl with | [_, _, _], _ => rfl)); (case a => k_is); (case l => k_is); (case c => k_is); (case k => k_is)
    refine' (fun (d_law : DL.DefAt _ mg "law" DL.s_law ["script"]) => ?nx34)
      (DL.DefAt.of X G ?a ?l ?c ?k (fun _ _ _ _ _ _ us hl => match us, hl with | [_], _ => rfl)); (case a => k_is); (case l => k_is); (case c => k_is); (case k => k_is)
    refine' (fun (c_BadRecord : DL.WayAt PySem.Challenge.pw_deedroads_k15_whole_ends_of_records _ mg "BadRecord") => ?nx35)
      (DL.WayAt.of (p1 := ⟨5, 17, 5, 21⟩) (p2 := ⟨5, 23, 5, 25⟩) (q1 := ⟨6, 8, 6, 13⟩) (q2 := ⟨6, 8, 6, 15⟩) (q3 := ⟨6, 8, 6, 24⟩) (q4 := ⟨6, 25, 6, 27⟩) (q5 := ⟨6, 8, 6, 28⟩) (q6 := ⟨6, 8, 6, 28⟩) (q7 := ⟨7, 8, 7, 12⟩) (q8 := ⟨7, 8, 7, 15⟩) (q9 := ⟨7, 18, 7, 20⟩) (q10 := ⟨7, 8, 7, 20⟩) X G ?aC ?xL ?bm ?sa ?ga ?gg ?nN ?iC ?tC ?kC ?eC ?yC ?hC ?l ?c ?cell ?code ?vs ?fi ?li ?sup ?sV ?mD ?cD ?op ?nS ?top);
      (case aC => k_is); (case xL => k_is); (case bm => decide); (case sa => k_is); (case ga => k_is); (case gg => k_is); (case nN => k_is); (case iC => k_is); (case tC => k_is); (case kC => k_is); (case eC => k_is); (case yC => k_is); (case hC => k_is); (case l => k_is); (case c => k_is); (case cell => k_is); (case code => k_is); (case vs => rfl); (case fi => first | rfl | decide +kernel); (case li => rfl); (case sup => ks_is); (case sV => k_is); (case mD => k_is); (case cD => k_is); (case op => k_is); (case nS => k_is); (case top => first | rfl | decide +kernel)
    refine' (fun (c_Unfit : DL.WayAt PySem.Challenge.pw_deedroads_k15_whole_ends_of_records _ mg "Unfit") => ?nx36)
      (DL.WayAt.of (p1 := ⟨5, 17, 5, 21⟩) (p2 := ⟨5, 23, 5, 25⟩) (q1 := ⟨6, 8, 6, 13⟩) (q2 := ⟨6, 8, 6, 15⟩) (q3 := ⟨6, 8, 6, 24⟩) (q4 := ⟨6, 25, 6, 27⟩) (q5 := ⟨6, 8, 6, 28⟩) (q6 := ⟨6, 8, 6, 28⟩) (q7 := ⟨7, 8, 7, 12⟩) (q8 := ⟨7, 8, 7, 15⟩) (q9 := ⟨7, 18, 7, 20⟩) (q10 := ⟨7, 8, 7, 20⟩) X G ?aC ?xL ?bm ?sa ?ga ?gg ?nN ?iC ?tC ?kC ?eC ?yC ?hC ?l ?c ?cell ?code ?vs ?fi ?li ?sup ?sV ?mD ?cD ?op ?nS ?top);
      (case aC => k_is); (case xL => k_is); (case bm => decide); (case sa => k_is); (case ga => k_is); (case gg => k_is); (case nN => k_is); (case iC => k_is); (case tC => k_is); (case kC => k_is); (case eC => k_is); (case yC => k_is); (case hC => k_is); (case l => k_is); (case c => k_is); (case cell => k_is); (case code => k_is); (case vs => rfl); (case fi => first | rfl | decide +kernel); (case li => rfl); (case sup => ks_is); (case sV => k_is); (case mD => k_is); (case cD => k_is); (case op => k_is); (case nS => k_is); (case top => first | rfl | decide +kernel)
    refine' (fun (tb_l_word_1 : DL.TblOk _ mg DL.tb_l_word_1 ["BadRecord", "Unfit"]) => ?nx37)
      (DL.TblOk.cons c_BadRecord (by refine' DL.exm_of (c := "BadRecord") (c' := "BadRecord") X G ?a1 ?a2 ?h1 ?hd ?ht ?h4; (case a1 => k_is); (case a2 => k_is); (case h1 => k_is); (case hd => k_is); (case ht => k_is); (case h4 => first | rfl | k_is))
      (DL.TblOk.cons c_Unfit ⟨(by refine' DL.exm_of (c := "Unfit") (c' := "BadRecord") X G ?a1 ?a2 ?h1 ?hd ?ht ?h4; (case a1 => k_is); (case a2 => k_is); (case h1 => k_is); (case hd => k_is); (case ht => k_is); (case h4 => first | rfl | k_is)), (by refine' DL.exm_of (c := "Unfit") (c' := "Unfit") X G ?a1 ?a2 ?h1 ?hd ?ht ?h4; (case a1 => k_is); (case a2 => k_is); (case h1 => k_is); (case hd => k_is); (case ht => k_is); (case h4 => first | rfl | k_is))⟩
      DL.TblOk.nil))
    refine' (fun (T : DL.Txt PySem.Challenge.pw_deedroads_k15_whole_ends_of_records _ mg) => ?nx38) { d_l_less := d_l_less, d_l_gcd := d_l_gcd, d_l_low := d_l_low, d_l_plus := d_l_plus, d_l_sum := d_l_sum, d_l_record := d_l_record, d_l_are_types := d_l_are_types, d_l_minus := d_l_minus, d_l_bounds := d_l_bounds, d_l_chance := d_l_chance, d_l_draws := d_l_draws, d_l_mix := d_l_mix, d_l_moved := d_l_moved, d_fraction := d_fraction, d_minus := d_minus, d_gains_of := d_gains_of, d_is_fraction := d_is_fraction, d_is_less := d_is_less, d_is_chance := d_is_chance, d_plus := d_plus, d_total := d_total, d_check_record := d_check_record, d_greater := d_greater, d_lesser := d_lesser, d_helped := d_helped, d_over := d_over, d_ends_of := d_ends_of, d_ends := d_ends, d_l_word := d_l_word, d_are_types := d_are_types, d_chance_by := d_chance_by, d_types_with := d_types_with, d_types_at := d_types_at, d_law := d_law, n_abs := by (refine PySem.W.mg_none_of X G ?_; k_is), n_all := by (refine PySem.W.mg_none_of X G ?_; k_is), n_enumerate := by (refine PySem.W.mg_none_of X G ?_; k_is), n_gcd := by (refine PySem.W.mg_of X G ?_; k_is), n_int := by (refine PySem.W.mg_none_of X G ?_; k_is), n_len := by (refine PySem.W.mg_none_of X G ?_; k_is), n_list := by (refine PySem.W.mg_none_of X G ?_; k_is), n_min := by (refine PySem.W.mg_none_of X G ?_; k_is), n_range := by (refine PySem.W.mg_none_of X G ?_; k_is), n_repr := by (refine PySem.W.mg_none_of X G ?_; k_is), n_sum := by (refine PySem.W.mg_none_of X G ?_; k_is), c_BadRecord := c_BadRecord, c_Unfit := c_Unfit, tb_l_word_1 := tb_l_word_1 }
    refine' DL.end_law T hmg X G ?a ?l ?c ?k; (case a => k_is); (case l => k_is); (case c => k_is); (case k => k_is)

