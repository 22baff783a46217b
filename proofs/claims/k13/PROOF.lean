import PyProof.Rows.All
import Wide.All
import OpenK.AllK
import Wide.FinOn
import KE.KStateDown
import KE.SortData
import KE.DataMinMax
import KE.KExcSuper
import HandS.ForMost
import HandS.Exc
import HandS.TryOnly
import HandS.ExcOwn
import HandS.WordsExc
import HandS.Evl
import HandS.Zip
import HandS.Walk
import HandS.SortInts
import HandS.Nested
import KE.KSuper
import HandS.Conv
import HandS.TupAny
import HandS.IsInst
import HandS.ExcInit
import HandS.TryMany
import HandS.ExcField
import HandS.Defaults
import HandS.Head0
import HandS.Head1
import HandS.Head2
import HandS.HeadEnd
import HandS.HeadHook1
import HandS.HeadHook2
import KE.GoesMore
import PySem.Challenge.RW_netsredrawn_k13_whole_least_forms
set_option Elab.async false
set_option linter.all false
set_option maxRecDepth 100000
set_option maxHeartbeats 4000000
/-! ## K1: what an expression evaluates to, told as data -/
namespace Nk
open PySem PySem.Spec PyProof.Rows L2 Evl

/-! ### data stay data -/
mutual
theorem dpMono {K : PySem.W.Frag} {H H' : Hp} (e : Ex H H') : ∀ (d : PyData) (v : V), Dp K H v d → Dp K H' v d
  | .none, _, h => by cases h; exact .non
  | .bool _, _, h => by cases h; exact .bl _
  | .int _, _, h => by cases h; exact .int _
  | .str _, _, h => by cases h; exact .str _
  | .list ds, _, h => by
    cases h with
    | lst h1 h2 => exact .lst (ex_l e h1) (dpAllMono e ds _ h2)
  | .tuple ds, _, h => by
    cases h with
    | tup h1 h2 => exact .tup (ex_t e h1) (dpAllMono e ds _ h2)
  | .dict _, _, h => by cases h
theorem dpAllMono {K : PySem.W.Frag} {H H' : Hp} (e : Ex H H') : ∀ (ds : List PyData) (vs : List V), DpAll K H vs ds → DpAll K H' vs ds
  | [], _, h => by cases h; exact .nil
  | d :: ds, _, h => by
    cases h with
    | cons h1 h2 => exact .cons (dpMono e d _ h1) (dpAllMono e ds _ h2)
end
/-! data without lists in them -/
mutual
def flatT : PyData → Bool
  | .list _ => false
  | .dict _ => false
  | .tuple ds => flatTs ds
  | _ => true
def flatTs : List PyData → Bool
  | [] => true
  | d :: ds => flatT d && flatTs ds
end
theorem flatTs_of : ∀ {ds : List PyData}, (∀ d ∈ ds, flatT d = true) → flatTs ds = true
  | [], _ => by simp [flatTs]
  | d :: ds, h => by
    rw [flatTs, h d List.mem_cons_self, flatTs_of fun x hx => h x (List.mem_cons_of_mem _ hx)]
    rfl
/-- what only tuples' addresses bear: tuples stay though lists and dicts change -/
def Tk (H H' : Hp) : Prop := (∀ a xs, H a = some (.tup xs) → H' a = some (.tup xs)) ∧ ∀ a o xs, H a = some (.frz o (.tup xs)) → H' a = some (.frz o (.tup xs))
theorem Tk.refl (H : Hp) : Tk H H := ⟨fun _ _ h => h, fun _ _ _ h => h⟩
theorem Tk.trans {H H1 H2 : Hp} (a : Tk H H1) (b : Tk H1 H2) : Tk H H2 := ⟨fun x y h => b.1 x y (a.1 x y h), fun x o y h => b.2 x o y (a.2 x o y h)⟩
theorem Tk.ex {H H' : Hp} (e : Ex H H') : Tk H H' := ⟨fun a xs h => e a _ h, fun a o xs h => e a _ h⟩
theorem Tk.lst {H : Hp} {l : Addr} {xs : List V} {o : HO} (h : H l = some (.lst xs)) : Tk H (upd H l o) := ⟨fun a ys q => by rw [upd_ne (ne_of q h (by intro z; cases z))]; exact q, fun a ob ys q => by rw [upd_ne (ne_of q h (by intro z; cases z))]; exact q⟩
theorem Tk.dic {H : Hp} {l : Addr} {kvs : List (Key × V)} {o : HO} (h : H l = some (.dK kvs)) : Tk H (upd H l o) := ⟨fun a ys q => by rw [upd_ne (ne_of q h (by intro z; cases z))]; exact q, fun a ob ys q => by rw [upd_ne (ne_of q h (by intro z; cases z))]; exact q⟩
theorem Tk.t {K : PySem.W.Frag} {H H' : Hp} (k : Tk H H') {a : Addr} {xs : List V} (h : SqT K H a xs) : SqT K H' a xs := by
  rcases h with (h | ⟨o, h⟩) | h
  · exact .inl (.inl (k.1 _ _ h))
  · exact .inl (.inr ⟨o, k.2 _ _ _ h⟩)
  · exact .inr h
mutual
theorem dpTk {K : PySem.W.Frag} {H H' : Hp} (e : Tk H H') : ∀ (d : PyData) (v : V), flatT d = true → Dp K H v d → Dp K H' v d
  | .none, _, _, h => by cases h; exact .non
  | .bool _, _, _, h => by cases h; exact .bl _
  | .int _, _, _, h => by cases h; exact .int _
  | .str _, _, _, h => by cases h; exact .str _
  | .list ds, _, q, h => by simp [flatT] at q
  | .tuple ds, _, q, h => by
    cases h with
    | tup h1 h2 => exact .tup (e.t h1) (dpAllTk e ds _ (by simpa [flatT] using q) h2)
  | .dict _, _, _, h => by cases h
theorem dpAllTk {K : PySem.W.Frag} {H H' : Hp} (e : Tk H H') : ∀ (ds : List PyData) (vs : List V), flatTs ds = true → DpAll K H vs ds → DpAll K H' vs ds
  | [], _, _, h => by cases h; exact .nil
  | d :: ds, _, q, h => by
    have q' : flatT d = true ∧ flatTs ds = true := by simpa [flatTs, Bool.and_eq_true] using q
    cases h with
    | cons h1 h2 => exact .cons (dpTk e d _ q'.1 h1) (dpAllTk e ds _ q'.2 h2)
end
end Nk
namespace L2
open PySem PySem.Spec PyProof.Rows Evl Nk
section
variable {K : PySem.W.Frag} {H H' : Hp} {v x y : V} {vs ws : List V} {d : PyData} {ds es : List PyData}
theorem Dp.mono (h : Dp K H v d) (e : Ex H H') : Dp K H' v d := dpMono e _ _ h
theorem DpAll.mono (h : DpAll K H vs ds) (e : Ex H H') : DpAll K H' vs ds := dpAllMono e _ _ h
theorem Dp.tk (h : Dp K H v d) (e : Tk H H') (f : flatT d = true) : Dp K H' v d := dpTk e _ _ f h
theorem DpAll.tk (h : DpAll K H vs ds) (e : Tk H H') (f : flatTs ds = true) : DpAll K H' vs ds := dpAllTk e _ _ f h
theorem DpAll.length : ∀ {vs : List V} {ds : List PyData}, DpAll K H vs ds → vs.length = ds.length
  | _, _, .nil => rfl
  | _, _, .cons _ t => congrArg (· + 1) (DpAll.length t)
theorem DpAll.app : ∀ {vs ws : List V} {ds es : List PyData}, DpAll K H vs ds → DpAll K H ws es → DpAll K H (vs ++ ws) (ds ++ es)
  | _, _, _, _, .nil, t => t
  | _, _, _, _, .cons h r, t => .cons h (DpAll.app r t)
theorem DpAll.get : ∀ {vs : List V} {ds : List PyData} {i : Nat} {d : PyData}, DpAll K H vs ds → ds[i]? = some d → ∃ v, vs[i]? = some v ∧ Dp K H v d
  | _, _, _, _, .nil, h => by simp at h
  | _, _, 0, _, .cons h _, e => by
    have e2 := Option.some.inj e
    subst e2
    exact ⟨_, rfl, h⟩
  | _, _, i + 1, _, .cons _ t, e => DpAll.get (i := i) t e
theorem DpAll.getv : ∀ {vs : List V} {ds : List PyData} {i : Nat} {v : V}, DpAll K H vs ds → vs[i]? = some v → ∃ d, ds[i]? = some d ∧ Dp K H v d
  | _, _, _, _, .nil, h => by simp at h
  | _, _, 0, _, .cons h _, e => by
    have e2 := Option.some.inj e
    subst e2
    exact ⟨_, rfl, h⟩
  | _, _, i + 1, _, .cons _ t, e => DpAll.getv (i := i) t e
theorem DpAll.drop : ∀ {vs : List V} {ds : List PyData} (i : Nat), DpAll K H vs ds → DpAll K H (vs.drop i) (ds.drop i)
  | _, _, 0, h => h
  | _, _, _ + 1, .nil => .nil
  | _, _, i + 1, .cons _ t => DpAll.drop i t
theorem DpAll.take : ∀ {vs : List V} {ds : List PyData} (i : Nat), DpAll K H vs ds → DpAll K H (vs.take i) (ds.take i)
  | _, _, 0, _ => .nil
  | _, _, _ + 1, .nil => .nil
  | _, _, i + 1, .cons h t => .cons h (DpAll.take i t)
theorem DpAll.set : ∀ {vs : List V} {ds : List PyData} (i : Nat), DpAll K H vs ds → Dp K H v d → DpAll K H (vs.set i v) (ds.set i d)
  | _, _, _, .nil, _ => .nil
  | _, _, 0, .cons _ t, h => .cons h t
  | _, _, i + 1, .cons h t, h2 => .cons h (DpAll.set i t h2)
theorem DpAll.erase : ∀ {vs : List V} {ds : List PyData} (i : Nat), DpAll K H vs ds → DpAll K H (vs.eraseIdx i) (ds.eraseIdx i)
  | _, _, _, .nil => .nil
  | _, _, 0, .cons _ t => t
  | _, _, i + 1, .cons h t => .cons h (DpAll.erase i t)
theorem Dp.int_eq (h : Dp K H v (.int i)) : v = .int i := by cases h; rfl
theorem Dp.bl_eq (h : Dp K H v (.bool b)) : v = .bl b := by cases h; rfl
theorem Dp.non_eq (h : Dp K H v .none) : v = .non := by cases h; rfl
theorem Dp.str_eq (h : Dp K H v (.str z)) : v = .str z := by cases h; rfl
theorem DpAll.ints : ∀ {ns : List Int} {vs : List V}, DpAll K H vs (ns.map .int) → vs = ns.map V.int
  | [], _, h => by cases h; rfl
  | n :: ns, _, h => by
    cases h with
    | cons h1 h2 =>
      cases h1
      rw [DpAll.ints h2]
      rfl
theorem dpInts : ∀ ns : List Int, DpAll K H (ns.map V.int) (ns.map .int)
  | [] => .nil
  | n :: ns => .cons (.int n) (dpInts ns)
theorem DpAll.bls : ∀ {bs : List Bool} {vs : List V}, DpAll K H vs (bs.map .bool) → vs = bs.map V.bl
  | [], _, h => by cases h; rfl
  | n :: ns, _, h => by
    cases h with
    | cons h1 h2 =>
      cases h1
      rw [DpAll.bls h2]
      rfl
end

end L2
namespace Nk
open PySem PySem.Spec PyProof.Rows L2 Evl
/-! ### what is known of a value: data, or the value itself -/
inductive A where
  | d (x : PyData)
  | v (x : V)
def Is (K : PySem.W.Frag) (H : Hp) (v : V) : A → Prop
  | .d x => Dp K H v x
  | .v x => v = x
def IsAll (K : PySem.W.Frag) (H : Hp) : List V → List A → Prop
  | [], [] => True
  | v :: vs, a :: as => Is K H v a ∧ IsAll K H vs as
  | _, _ => False
section
variable {K : PySem.W.Frag} {H H' : Hp} {v : V} {vs : List V} {a : A} {as : List A}
theorem Is.mono (h : Is K H v a) (e : Ex H H') : Is K H' v a := by
  cases a with
  | d x => exact Dp.mono h e
  | v x => exact h
theorem IsAll.mono : ∀ {vs : List V} {as : List A}, IsAll K H vs as → Ex H H' → IsAll K H' vs as
  | [], [], _, _ => True.intro
  | _ :: _, _ :: _, h, e => ⟨h.1.mono e, IsAll.mono h.2 e⟩
  | [], _ :: _, h, _ => h.elim
  | _ :: _, [], h, _ => h.elim
end
def EvG (K : PySem.W.Frag) (te : TE) (σ : L2.St) (H : Hp) (a : A) : Prop := ∀ H1, Ex H H1 → ∀ Q : VK, (∀ v H2, Ex H1 H2 → Is K H2 v a → Q v H2) → te σ H1 Q
def EvGs (K : PySem.W.Frag) (ta : TA) (σ : L2.St) (H : Hp) (as : List A) : Prop := ∀ H1, Ex H H1 → ∀ Q : List V → Hp → Prop, (∀ vs H2, Ex H1 H2 → IsAll K H2 vs as → Q vs H2) → ta σ H1 Q
/-- an operation by values; a call by values; a promise -/
def RG (K : PySem.W.Frag) (r : R2) (H : Hp) (a b c : A) : Prop := ∀ x y H1, Ex H H1 → Is K H1 x a → Is K H1 y b → ∀ Q : VK, (∀ v H2, Ex H1 H2 → Is K H2 v c → Q v H2) → r x y H1 Q
def RU1 (K : PySem.W.Frag) (r : V → Hp → VK → Prop) (H : Hp) (a c : A) : Prop := ∀ x H1, Ex H H1 → Is K H1 x a → ∀ Q : VK, (∀ v H2, Ex H1 H2 → Is K H2 v c → Q v H2) → r x H1 Q
def RCs (K : PySem.W.Frag) (r : List V → Hp → VK → Prop) (H : Hp) (as : List A) (c : A) : Prop := ∀ vs H1, Ex H H1 → IsAll K H1 vs as → ∀ Q : VK, (∀ v H2, Ex H1 H2 → Is K H2 v c → Q v H2) → r vs H1 Q
def SpG (K : PySem.W.Frag) (sp : Sp) (H : Hp) (as : List A) (c : A) : Prop := ∀ vs H1, Ex H H1 → IsAll K H1 vs as → ∀ (Q : VK) (E : XK), (∀ v H2, Ex H1 H2 → Is K H2 v c → Q v H2) → sp vs H1 Q E
/-- a def's answer -/
def RetA (K : PySem.W.Frag) (c : A) (H : Hp) (Q : VK) : Prop := ∀ v H2, Ex H H2 → Is K H2 v c → Q v H2

section
variable {K : PySem.W.Frag} {σ : L2.St} {H H' : Hp} {ta tb te tx : TE} {t u : TT} {x y z v : V} {r : R2} {a b c : A} {as : List A}
theorem EvG.mono (h : EvG K te σ H a) (e : Ex H H') : EvG K te σ H' a := fun H1 f Q q => h H1 (e.trans f) Q q
theorem EvGs.mono {ta : TA} (h : EvGs K ta σ H as) (e : Ex H H') : EvGs K ta σ H' as := fun H1 f Q q => h H1 (e.trans f) Q q
theorem g_var {i : Nat} (h : σ[i]? = some (some v)) (hv : Is K H v a) : EvG K (tVar i) σ H a := fun H1 e _ q => ⟨v, h, q v H1 (Ex.refl H1) (hv.mono e)⟩
theorem g_int {i : Int} : EvG K (tC (.int i)) σ H (.d (.int i)) := fun H1 _ _ q => q _ H1 (Ex.refl H1) (.int i)
theorem g_bl {i : Bool} : EvG K (tC (.bl i)) σ H (.d (.bool i)) := fun H1 _ _ q => q _ H1 (Ex.refl H1) (.bl i)
theorem g_str {i : Str} : EvG K (tC (.str i)) σ H (.d (.str i)) := fun H1 _ _ q => q _ H1 (Ex.refl H1) (.str i)
theorem g_non : EvG K (tC .non) σ H (.d .none) := fun H1 _ _ q => q _ H1 (Ex.refl H1) .non
theorem g_c : EvG K (tC v) σ H (.v v) := fun H1 _ _ q => q _ H1 (Ex.refl H1) rfl
theorem g_ev (h : EvG K te σ H (.v v)) : Ev te σ H v := fun H1 e Q q => h H1 e Q fun w H2 e2 hw => by
  have hw' : w = v := hw
  subst hw'
  exact q H2 e2
theorem g_of_ev (h : Ev te σ H v) : EvG K te σ H (.v v) := fun H1 e Q q => h H1 e Q fun H2 e2 => q v H2 e2 rfl
theorem g_toV {i : Int} (h : EvG K te σ H (.d (.int i))) : EvG K te σ H (.v (.int i)) := fun H1 e Q q => h H1 e Q fun w H2 e2 hw => q w H2 e2 (Dp.int_eq hw)
theorem g_toD {i : Int} (h : EvG K te σ H (.v (.int i))) : EvG K te σ H (.d (.int i)) := fun H1 e Q q => h H1 e Q fun w H2 e2 hw => q w H2 e2 (by
  have hw' : w = .int i := hw
  subst hw'
  exact .int i)
theorem g_toVb {i : Bool} (h : EvG K te σ H (.d (.bool i))) : EvG K te σ H (.v (.bl i)) := fun H1 e Q q => h H1 e Q fun w H2 e2 hw => q w H2 e2 (Dp.bl_eq hw)
theorem g_toDb {i : Bool} (h : EvG K te σ H (.v (.bl i))) : EvG K te σ H (.d (.bool i)) := fun H1 e Q q => h H1 e Q fun w H2 e2 hw => q w H2 e2 (by
  have hw' : w = .bl i := hw
  subst hw'
  exact .bl i)
theorem g_ref (h : EvG K te σ H (.v x)) (hd : Dp K H x d) : EvG K te σ H (.d d) := fun H1 e Q q => h H1 e Q fun w H2 e2 hw => q w H2 e2 (by
  have hw' : w = x := hw
  subst hw'
  exact Dp.mono hd (e.trans e2))
theorem g_is (h : EvG K te σ H a) (e : a = b) : EvG K te σ H b := e ▸ h
theorem g_op (ha : EvG K ta σ H a) (hb : EvG K tb σ H b) (hr : RG K r H a b c) : EvG K (tOp r ta tb) σ H c := fun H1 e Q q =>
  ha H1 e _ fun x H2 e2 hx => hb H2 (e.trans e2) _ fun y H3 e3 hy => hr x y H3 ((e.trans e2).trans e3) (hx.mono e3) hy Q fun v H4 e4 hv => q v H4 ((e2.trans e3).trans e4) hv
theorem g_un {r : V → Hp → VK → Prop} (ha : EvG K ta σ H a) (hr : RU1 K r H a c) : EvG K (tUn r ta) σ H c := fun H1 e Q q =>
  ha H1 e _ fun x H2 e2 hx => hr x H2 (e.trans e2) hx Q fun v H4 e4 hv => q v H4 (e2.trans e4) hv
theorem gs_nil : EvGs K tNil σ H [] := fun H1 _ _ q => q [] H1 (Ex.refl H1) True.intro
theorem gs_cons {tr : TA} (ha : EvG K ta σ H a) (hr : EvGs K tr σ H as) : EvGs K (tCons ta tr) σ H (a :: as) := fun H1 e _ q =>
  ha H1 e _ fun x H2 e2 hx => hr H2 (e.trans e2) _ fun vs H3 e3 hv => q (x :: vs) H3 (e2.trans e3) ⟨hx.mono e3, hv⟩
theorem g_cb {r : List V → Hp → VK → Prop} {ta : TA} (ha : EvGs K ta σ H as) (hr : RCs K r H as c) : EvG K (tCB r ta) σ H c := fun H1 e Q q =>
  ha H1 e _ fun vs H2 e2 hx => hr vs H2 (e.trans e2) hx Q fun v H4 e4 hv => q v H4 (e2.trans e4) hv
theorem g_call {sp : Sp} {E : XK} {ta : TA} (ha : EvGs K ta σ H as) (hs : SpG K sp H as c) : EvG K (tCall sp [] E ta) σ H c := fun H1 e Q q =>
  ha H1 e _ fun vs H2 e2 hx => by
    show sp (vs ++ []) H2 Q E
    rw [List.append_nil]
    exact hs vs H2 (e.trans e2) hx Q E fun v H4 e4 hv => q v H4 (e2.trans e4) hv
/-! ### displays -/
theorem isAll_d : ∀ {ds : List PyData} {vs : List V}, IsAll K H vs (ds.map A.d) → DpAll K H vs ds
  | [], [], _ => .nil
  | [], _ :: _, h => h.elim
  | _ :: _, [], h => h.elim
  | _ :: _, _ :: _, h => .cons h.1 (isAll_d h.2)
theorem isAll_of_d : ∀ {ds : List PyData} {vs : List V}, DpAll K H vs ds → IsAll K H vs (ds.map A.d)
  | [], [], _ => True.intro
  | _ :: _, _ :: _, .cons h t => ⟨h, isAll_of_d t⟩
theorem g_tup {ta : TA} {ds : List PyData} (h : EvGs K ta σ H (ds.map A.d)) (hl : ds.length ≤ 100000) : EvG K (tTup ta) σ H (.d (.tuple ds)) := fun H1 e _ q =>
  h H1 e _ fun vs H2 e2 hx => ⟨by rw [(isAll_d hx).length]; exact sz_of hl, fun p hp => q (.ref p) _ (e2.trans (Ex.new hp)) (.tup (st_of upd_same) ((isAll_d hx).mono (Ex.new hp)))⟩
theorem g_lst {ta : TA} {ds : List PyData} (h : EvGs K ta σ H (ds.map A.d)) (hl : ds.length ≤ 100000) : EvG K (tLst ta) σ H (.d (.list ds)) := fun H1 e _ q =>
  h H1 e _ fun vs H2 e2 hx => ⟨by rw [(isAll_d hx).length]; exact sz_of hl, fun p hp => q (.ref p) _ (e2.trans (Ex.new hp)) (.lst (sq_of upd_same) ((isAll_d hx).mono (Ex.new hp)))⟩
/-! ### operations on ints -/
theorem rg_I0 {g : Int → Int → V} {i j : Int} {d : PyData} (hg : ∀ H, Dp K H (g i j) d) : RG K (rI0 g) H (.d (.int i)) (.d (.int j)) (.d d) := fun x y H1 _ hx hy _ q => by
  cases hx; cases hy
  exact ⟨i, j, rfl, rfl, q _ H1 (Ex.refl H1) (hg H1)⟩
theorem rg_add {i j : Int} : RG K (rI0 fun i j => .int (i + j)) H (.d (.int i)) (.d (.int j)) (.d (.int (i + j))) := rg_I0 fun _ => .int _
theorem rg_sub {i j : Int} : RG K (rI0 fun i j => .int (i - j)) H (.d (.int i)) (.d (.int j)) (.d (.int (i - j))) := rg_I0 fun _ => .int _
theorem rg_xor {i j : Int} : RG K (rI0 fun i j => .int (Builtin.bitXor i j)) H (.d (.int i)) (.d (.int j)) (.d (.int (Builtin.bitXor i j))) := rg_I0 fun _ => .int _
theorem rg_lt {i j : Int} : RG K (rI0 fun i j => .bl (decide (i < j))) H (.d (.int i)) (.d (.int j)) (.d (.bool (decide (i < j)))) := rg_I0 fun _ => .bl _
theorem rg_le {i j : Int} : RG K (rI0 fun i j => .bl (decide (i ≤ j))) H (.d (.int i)) (.d (.int j)) (.d (.bool (decide (i ≤ j)))) := rg_I0 fun _ => .bl _
theorem rg_gt {i j : Int} : RG K (rI0 fun i j => .bl (decide (j < i))) H (.d (.int i)) (.d (.int j)) (.d (.bool (decide (j < i)))) := rg_I0 fun _ => .bl _
theorem rg_ge {i j : Int} : RG K (rI0 fun i j => .bl (decide (j ≤ i))) H (.d (.int i)) (.d (.int j)) (.d (.bool (decide (j ≤ i)))) := rg_I0 fun _ => .bl _
theorem rg_I {C : Int → Int → Prop} {g : Int → Int → Int} {i j : Int} (hc : C i j) : RG K (rI C fun i j => .int (g i j)) H (.d (.int i)) (.d (.int j)) (.d (.int (g i j))) := fun x y H1 _ hx hy _ q => by
  cases hx; cases hy
  exact ⟨i, j, rfl, rfl, hc, q _ H1 (Ex.refl H1) (.int _)⟩
theorem ru_neg {i : Int} : RU1 K (rU fun i => .int (-i)) H (.d (.int i)) (.d (.int (-i))) := fun x H1 _ hx _ q => by
  cases hx
  exact ⟨i, rfl, q _ H1 (Ex.refl H1) (.int _)⟩
theorem rg_eqI {i j : Int} : RG K rEq H (.d (.int i)) (.d (.int j)) (.d (.bool (decide (i = j)))) := fun x y H1 _ hx hy _ q => by
  cases hx; cases hy
  have e : decide (V.int i = V.int j) = decide (i = j) := by rw [dec_int, Bool.beq_eq_decide_eq]
  exact ⟨rfl, by rw [e]; exact q _ H1 (Ex.refl H1) (.bl _)⟩
theorem rg_neI {i j : Int} : RG K rNe H (.d (.int i)) (.d (.int j)) (.d (.bool (!decide (i = j)))) := fun x y H1 _ hx hy _ q => by
  cases hx; cases hy
  have e : decide (V.int i = V.int j) = decide (i = j) := by rw [dec_int, Bool.beq_eq_decide_eq]
  exact ⟨rfl, by rw [e]; exact q _ H1 (Ex.refl H1) (.bl _)⟩
theorem rg_eqS {i j : Str} : RG K rEq H (.d (.str i)) (.d (.str j)) (.d (.bool (decide (i = j)))) := fun x y H1 _ hx hy _ q => by
  cases hx; cases hy
  have e : decide (V.str i = V.str j) = decide (i = j) := by rw [dec_str, Bool.beq_eq_decide_eq]
  exact ⟨rfl, by rw [e]; exact q _ H1 (Ex.refl H1) (.bl _)⟩
theorem rg_neB {i j : Bool} : RG K rNe H (.d (.bool i)) (.d (.bool j)) (.d (.bool (!decide (i = j)))) := fun x y H1 _ hx hy _ q => by
  cases hx; cases hy
  have e : decide (V.bl i = V.bl j) = decide (i = j) := by rw [dec_bl, Bool.beq_eq_decide_eq]
  exact ⟨rfl, by rw [e]; exact q _ H1 (Ex.refl H1) (.bl _)⟩
theorem rg_eqB {i j : Bool} : RG K rEq H (.d (.bool i)) (.d (.bool j)) (.d (.bool (decide (i = j)))) := fun x y H1 _ hx hy _ q => by
  cases hx; cases hy
  have e : decide (V.bl i = V.bl j) = decide (i = j) := by rw [dec_bl, Bool.beq_eq_decide_eq]
  exact ⟨rfl, by rw [e]; exact q _ H1 (Ex.refl H1) (.bl _)⟩
/-! ### items -/
theorem rg_ixT {ds : List PyData} {i : Int} {d : PyData} (h : atI ds i = some d) : RG K (rIxT K) H (.d (.tuple ds)) (.d (.int i)) (.d d) := fun x y H1 _ hx hy _ q => by
  cases hy
  cases hx with
  | @tup p xs _ h1 h2 =>
    unfold atI at h
    rw [← h2.length] at h
    obtain ⟨j, hj, hd⟩ := Option.bind_eq_some_iff.mp h
    obtain ⟨v, hv, hp⟩ := h2.get hd
    exact ⟨p, xs, i, v, rfl, rfl, h1, by unfold atI; rw [hj]; exact hv, q _ H1 (Ex.refl H1) hp⟩
theorem rg_ixLd {ds : List PyData} {i : Int} {d : PyData} (h : atI ds i = some d) : RG K (rIxL K) H (.d (.list ds)) (.d (.int i)) (.d d) := fun x y H1 _ hx hy _ q => by
  cases hy
  cases hx with
  | @lst p xs _ h1 h2 =>
    unfold atI at h
    rw [← h2.length] at h
    obtain ⟨j, hj, hd⟩ := Option.bind_eq_some_iff.mp h
    obtain ⟨v, hv, hp⟩ := h2.get hd
    exact ⟨p, xs, i, v, rfl, rfl, h1, by unfold atI; rw [hj]; exact hv, q _ H1 (Ex.refl H1) hp⟩
/-- an item of a list that stands as it is -/
theorem rg_ixLv {l : Addr} {xs : List V} {i : Int} (hl : SqL K H l xs) (h : atI xs i = some v) : RG K (rIxL K) H (.v (.ref l)) (.d (.int i)) (.v v) := fun x y H1 e hx hy _ q => by
  cases hy
  have hx' : x = .ref l := hx
  subst hx'
  exact ⟨l, xs, i, v, rfl, rfl, ex_l e hl, h, q _ H1 (Ex.refl H1) rfl⟩
end
/-! ### statements -/
section
variable {K : PySem.W.Frag} {σ : L2.St} {H H' : Hp} {ta tb te tx : TE} {t : TT} {v : V} {a : A} {D : Ends} {tu tw tz : TS}
theorem s_asgG {i : Nat} (h : EvG K te σ H a) (k : ∀ v H1, Ex H H1 → Is K H1 v a → D.nx (σ.set i (some v)) H1) : tAsg te (gName i) D σ H := h H (Ex.refl H) _ fun v H1 e hv => k v H1 e hv
theorem asg {i : Nat} (h : EvG K te σ H a) (k : ∀ v H1, Ex H H1 → Is K H1 v a → tz D (σ.set i (some v)) H1) : tSeq (tAsg te (gName i)) tz D σ H := s_asgG (D := { D with nx := tz D }) h k
theorem asgI {i : Nat} {n : Int} (h : EvG K te σ H (.d (.int n))) (k : ∀ H1, Ex H H1 → tz D (σ.set i (some (.int n))) H1) : tSeq (tAsg te (gName i)) tz D σ H := asg h fun v H1 e hv => by
  cases hv
  exact k H1 e
theorem asgB {i : Nat} {n : Bool} (h : EvG K te σ H (.d (.bool n))) (k : ∀ H1, Ex H H1 → tz D (σ.set i (some (.bl n))) H1) : tSeq (tAsg te (gName i)) tz D σ H := asg h fun v H1 e hv => by
  cases hv
  exact k H1 e
theorem asgV {i : Nat} (h : EvG K te σ H (.v v)) (k : ∀ H1, Ex H H1 → tz D (σ.set i (some v)) H1) : tSeq (tAsg te (gName i)) tz D σ H := asg h fun w H1 e hv => by
  have hw : w = v := hv
  subst hw
  exact k H1 e
theorem retG (h : EvG K te σ H a) (k : ∀ v H1, Ex H H1 → Is K H1 v a → D.rt v H1) : tRet te D σ H := h H (Ex.refl H) _ k
theorem retA {Q : VK} (h : EvG K te σ H a) (k : RetA K a H Q) (e : D.rt = Q) : tRet te D σ H := retG h fun v H1 e1 hv => by
  rw [e]
  exact k v H1 e1 hv
theorem et_of {b : Bool} (h : EvG K te σ H (.d (.bool b))) : EvT (tTest te) σ H b := fun H1 e _ q => h H1 e _ fun v H2 e2 hv => by
  cases hv
  exact ⟨b, rfl, q H2 e2⟩
theorem et_ofB {b : Bool} (h : EvG K te σ H (.d (.bool b))) : EvT (tB te) σ H b := fun H1 e _ q => h H1 e _ fun v H2 e2 hv => by
  cases hv
  exact ⟨b, rfl, q H2 e2⟩
theorem g_ifE {b : Bool} (h : EvT t σ H b) (h1 : b = true → EvG K ta σ H a) (h2 : b = false → EvG K tb σ H a) : EvG K (tIf t ta tb) σ H a := fun H1 e Q q => h H1 e _ fun H2 e2 => by
  cases b with
  | true =>
    show ta σ H2 Q
    exact h1 rfl H2 (e.trans e2) Q fun v H3 e3 hv => q v H3 (e2.trans e3) hv
  | false =>
    show tb σ H2 Q
    exact h2 rfl H2 (e.trans e2) Q fun v H3 e3 hv => q v H3 (e2.trans e3) hv
theorem g_andV {p q : Bool} (h1 : EvG K ta σ H (.d (.bool p))) (h2 : p = true → EvG K tb σ H (.d (.bool q))) : EvG K (tAndV ta tb) σ H (.d (.bool (p && q))) := fun H1 e Q k => h1 H1 e _ fun v H2 e2 hv => by
  cases hv
  refine ⟨p, rfl, ?_⟩
  cases p with
  | true =>
    show tb σ H2 Q
    exact h2 rfl H2 (e.trans e2) Q fun w H3 e3 hw => k w H3 (e2.trans e3) hw
  | false =>
    show Q (.bl false) H2
    exact k _ H2 e2 (.bl _)
theorem g_notV {p : Bool} (h1 : EvG K ta σ H (.d (.bool p))) : EvG K (tNotV ta) σ H (.d (.bool (!p))) := fun H1 e Q k => h1 H1 e _ fun v H2 e2 hv => by
  cases hv
  exact ⟨p, rfl, k _ H2 e2 (.bl _)⟩
/-- a < b < c -/
theorem g_chain {r r' : R2} {p q : Bool} {b c : A} {tc : TE} (ha : EvG K ta σ H a) (hb : EvG K tb σ H b) (hr : RG K r H a b (.d (.bool p))) (hc : p = true → EvG K tc σ H c) (hr2 : p = true → RG K r' H b c (.d (.bool q))) : EvG K (tChain r r' ta tb tc) σ H (.d (.bool (p && q))) := fun H1 e Q k =>
  ha H1 e _ fun x H2 e2 hx => hb H2 (e.trans e2) _ fun y H3 e3 hy => hr x y H3 ((e.trans e2).trans e3) (hx.mono e3) hy _ fun v H4 e4 hv => by
    cases hv
    refine ⟨p, rfl, ?_⟩
    cases p with
    | true =>
      show tc σ H4 fun w' H4 => r' y w' H4 Q
      exact hc rfl H4 (((e.trans e2).trans e3).trans e4) _ fun z H5 e5 hz => hr2 rfl y z H5 ((((e.trans e2).trans e3).trans e4).trans e5) ((hy.mono e4).mono e5) hz Q fun w H6 e6 hw => k w H6 ((((e2.trans e3).trans e4).trans e5).trans e6) hw
    | false =>
      show Q (.bl false) H4
      exact k _ H4 ((e2.trans e3).trans e4) (.bl _)
theorem s_ifG {b : Bool} (h : EvT t σ H b) (h1 : b = true → ∀ H1, Ex H H1 → tu D σ H1) (h2 : b = false → ∀ H1, Ex H H1 → tw D σ H1) : tIfS t tu tw D σ H := s_if h h1 h2
end
end Nk
/-! ## K2: rules that the layer lacks -/
namespace Nk
open PySem PySem.Spec PyProof.Rows L2 Evl

/-! ### data with empty dicts in them, for repr -/
mutual
inductive Dr (K : PySem.W.Frag) (H : Hp) : V → PyData → Prop
  | dp {v : V} {d : PyData} : Dp K H v d → Dr K H v d
  | emp {a : Addr} : H a = some (.dK []) → Dr K H (.ref a) (.dict [])
  | lst {a : Addr} {xs : List V} {ds : List PyData} : SqL K H a xs → DrAll K H xs ds → Dr K H (.ref a) (.list ds)
  | tup {a : Addr} {xs : List V} {ds : List PyData} : SqT K H a xs → DrAll K H xs ds → Dr K H (.ref a) (.tuple ds)
inductive DrAll (K : PySem.W.Frag) (H : Hp) : List V → List PyData → Prop
  | nil : DrAll K H [] []
  | cons {v : V} {vs : List V} {d : PyData} {ds : List PyData} : Dr K H v d → DrAll K H vs ds → DrAll K H (v :: vs) (d :: ds)
end
/-- the written part tells that sys.modules is a dict -/
def SysD (K : PySem.W.Frag) : Prop := ∃ o, K.lookup sysModules = some o ∧ o.cls = .type "dict"
section
variable {X : Cx} {pins : List (Addr × Obj)} {σ : L2.St} {H : Hp} {s : Shared}
mutual
theorem noSys (hs : ∃ o, s.heap.get? sysModules = some o ∧ o.cls = .type "dict") : ∀ (d : PyData) (u : Value) (as : List Addr), d.hasDict = false → Reads s.heap u d as → sysModules ∉ as
  | .none, _, _, _, r => by cases r; exact fun q => nomatch q
  | .bool _, _, _, _, r => by cases r; exact fun q => nomatch q
  | .int _, _, _, _, r => by cases r; exact fun q => nomatch q
  | .str _, _, _, _, r => by cases r; exact fun q => nomatch q
  | .list ds, _, _, hd, r => by
    cases r with
    | list h1 h2 h3 h4 =>
      have t := noSysAll hs ds _ _ (by simpa [PyData.hasDict] using hd) h4
      intro q
      rcases List.mem_cons.mp q with e | q
      · obtain ⟨o, ho, hc⟩ := hs
        rw [e, h1] at ho
        cases ho
        rw [h2] at hc
        exact absurd hc (by decide)
      · exact t q
  | .tuple ds, _, _, hd, r => by
    cases r with
    | tuple h1 h2 h3 h4 => exact noSysAll hs ds _ _ (by simpa [PyData.hasDict] using hd) h4
  | .dict _, _, _, hd, _ => by simp [PyData.hasDict] at hd
theorem noSysAll (hs : ∃ o, s.heap.get? sysModules = some o ∧ o.cls = .type "dict") : ∀ (ds : List PyData) (us : List Value) (as : List Addr), PyData.hasDictAll ds = false → ReadsAll s.heap us ds as → sysModules ∉ as
  | [], _, _, _, r => by cases r; exact fun q => nomatch q
  | d :: ds, _, _, hd, r => by
    have hd' : d.hasDict = false ∧ PyData.hasDictAll ds = false := by simpa [PyData.hasDictAll] using hd
    cases r with
    | cons h1 h2 =>
      intro q
      rcases List.mem_append.mp q with q | q
      · exact noSys hs d _ _ hd'.1 h1 q
      · exact noSysAll hs ds _ _ hd'.2 h2 q
end
theorem dp_noDict {K : PySem.W.Frag} : ∀ {d : PyData} {v : V}, Dp K H v d → d.hasDict = false := by
  have both : (∀ (d : PyData) (v : V), Dp K H v d → d.hasDict = false) := by
    intro d v h
    refine Dp.rec (motive_1 := fun _ d _ => d.hasDict = false) (motive_2 := fun _ ds _ => PyData.hasDictAll ds = false) ?_ ?_ ?_ ?_ ?_ ?_ ?_ ?_ h
    · rfl
    · intro; rfl
    · intro; rfl
    · intro; rfl
    · intro a xs ds _ _ ih; simpa [PyData.hasDict] using ih
    · intro a xs ds _ _ ih; simpa [PyData.hasDict] using ih
    · rfl
    · intro v vs d ds _ _ h1 h2; simp [PyData.hasDictAll, h1, h2]
  exact fun {d v} h => both d v h
mutual
theorem Dr.reads (I : Inv X pins σ H s) (hs : SysD X.K) : ∀ (d : PyData) (v : V) (u : Value), Dr X.K H v d → RelV v u → ∃ as, Reads s.heap u d as ∧ sysModules ∉ as
  | .none, v, u, h, r => by
    cases h with
    | dp h => obtain ⟨as, q⟩ := Dp.reads I _ v u h r; exact ⟨as, q, noSys (let ⟨o, k, c⟩ := hs; ⟨o, I.kIn _ _ k, c⟩) _ _ _ (dp_noDict h) q⟩
  | .bool _, v, u, h, r => by
    cases h with
    | dp h => obtain ⟨as, q⟩ := Dp.reads I _ v u h r; exact ⟨as, q, noSys (let ⟨o, k, c⟩ := hs; ⟨o, I.kIn _ _ k, c⟩) _ _ _ (dp_noDict h) q⟩
  | .int _, v, u, h, r => by
    cases h with
    | dp h => obtain ⟨as, q⟩ := Dp.reads I _ v u h r; exact ⟨as, q, noSys (let ⟨o, k, c⟩ := hs; ⟨o, I.kIn _ _ k, c⟩) _ _ _ (dp_noDict h) q⟩
  | .str _, v, u, h, r => by
    cases h with
    | dp h => obtain ⟨as, q⟩ := Dp.reads I _ v u h r; exact ⟨as, q, noSys (let ⟨o, k, c⟩ := hs; ⟨o, I.kIn _ _ k, c⟩) _ _ _ (dp_noDict h) q⟩
  | .list ds, v, u, h, r => by
    cases h with
    | dp h => obtain ⟨as, q⟩ := Dp.reads I _ v u h r; exact ⟨as, q, noSys (let ⟨o, k, c⟩ := hs; ⟨o, I.kIn _ _ k, c⟩) _ _ _ (dp_noDict h) q⟩
    | @lst a xs _ h1 h2 =>
      cases r
      obtain ⟨its, rv, ⟨o, n, e, hc, _, hd⟩, _⟩ := I.list h1
      obtain ⟨as, q, nq⟩ := DrAll.reads I hs ds xs its h2 rv
      refine ⟨a :: as, .list e hc hd (by simpa using q), fun z => ?_⟩
      rcases List.mem_cons.mp z with z | z
      · obtain ⟨o2, k, c⟩ := hs
        have k2 := I.kIn _ _ k
        rw [z, e] at k2
        cases k2
        rw [hc] at c
        exact absurd c (by decide)
      · exact nq z
  | .tuple ds, v, u, h, r => by
    cases h with
    | dp h => obtain ⟨as, q⟩ := Dp.reads I _ v u h r; exact ⟨as, q, noSys (let ⟨o, k, c⟩ := hs; ⟨o, I.kIn _ _ k, c⟩) _ _ _ (dp_noDict h) q⟩
    | @tup a xs _ h1 h2 =>
      cases r
      obtain ⟨its, rv, ⟨o, e, hc, n, hd⟩, _⟩ := I.tuple h1
      obtain ⟨as, q, nq⟩ := DrAll.reads I hs ds xs its h2 rv
      exact ⟨as, .tuple e hc hd (by simpa using q), nq⟩
  | .dict kvs, v, u, h, r => by
    cases h with
    | dp h => cases h
    | @emp a h1 =>
      cases r
      obtain ⟨_, hsy, vs, rel, o, es, ep, e, ex, hd, _, pr, _⟩ := (show ObjOk X.prog X.w H s.heap a (.dK []) from I.hok a _ h1)
      cases rel
      have e0 : es.toList = [] := by
        cases q : es.toList with
        | nil => rfl
        | cons x r => rw [q] at pr; cases pr
      refine ⟨[a] ++ [], .dict e ex.1 hd (as := []) (bs := []) (by rw [e0]; exact .nil) (by rw [e0]; exact .nil), fun z => ?_⟩
      have z2 : sysModules = a := by simpa using z
      rw [z2] at hsy
      simp at hsy
theorem DrAll.reads (I : Inv X pins σ H s) (hs : SysD X.K) : ∀ (ds : List PyData) (vs : List V) (us : List Value), DrAll X.K H vs ds → Vals vs us → ∃ as, ReadsAll s.heap us ds as ∧ sysModules ∉ as
  | [], _, _, h, r => by
    cases h
    cases r
    exact ⟨[], .nil, fun z => nomatch z⟩
  | d :: ds, _, _, h, r => by
    cases h with
    | cons h1 h2 =>
      cases r with
      | cons r1 r2 =>
        obtain ⟨as, q1, n1⟩ := Dr.reads I hs d _ _ h1 r1
        obtain ⟨bs, q2, n2⟩ := DrAll.reads I hs ds _ _ h2 r2
        exact ⟨as ++ bs, .cons q1 q2, fun z => (List.mem_append.mp z).elim n1 n2⟩
end
end
/-! ### repr -/
def rReprD (K : PySem.W.Frag) : List V → Hp → VK → Prop := fun vs H Q => ∃ (v : V) (d : PyData), vs = [v] ∧ Dr K H v d ∧ ((∃ a, v = .ref a) ∨ ∃ b, v = .bl b ∧ d = .bool b) ∧ d.showable = true ∧ d.depth ≤ 40 ∧ d.shown.length ≤ sizeLine ∧ Q (.str d.shown) H
section
variable {X : Cx}
theorem call_reprD (hs : SysD X.K) (hg : X.A.guards = some []) (hu : X.A.units + 64 < cLine) : CallR X (.builtin "repr") (rReprD X.K) := by
  intro pins s σ H xs us Q I r h
  obtain ⟨v, d, rfl, hd, hv, hsh, hdp, hz, q⟩ := h
  obtain ⟨u, rfl, ru⟩ := vals1 r
  rcases hv with ⟨a, rfl⟩ | ⟨b, rfl, rfl⟩
  · cases ru
    obtain ⟨as, rd, ns⟩ := Dr.reads I hs d _ _ hd rfl
    exact repr_of_reads' rd hsh (fun _ => ns) hg (by omega) (fun _ _ e => e) (fun h' t tk hk => ⟨.str d.shown, H, I.kept (t' := tk) hk, ⟨_, rfl⟩, q⟩) hz
  · cases ru
    refine PySem.P.repr_of_bool ⟨.str (PyData.bool b).shown, H, I.tok _, ⟨_, by rw [PyData.shown_bool]⟩, q⟩
/-! ### a < b of data -/
def rLtD (K : PySem.W.Frag) : R2 := fun x y H Q => ∃ d e, Dp K H x d ∧ Dp K H y e ∧ PySem.W.alike d e = true ∧ d ≠ .none ∧ d.depth ≤ 40 ∧ Q (.bl (PySem.W.dataLt d e)) H
theorem op_ltD (hu : X.A.units + 64 < cLine) : OpR X (compareOp .Lt) (rLtD X.K) := by
  intro pins s σ H x y v u Q I rx ry h
  obtain ⟨d, e, hd, he, hal, hn, hdp, q⟩ := h
  obtain ⟨as, r1⟩ := Dp.reads I d x v hd rx
  obtain ⟨bs, r2⟩ := Dp.reads I e y u he ry
  exact PySem.W.lt_data r1 r2 hal hn (by omega) ⟨.bl _, H, I, rfl, q⟩
/-! ### min of a list of data -/
def rMinD (K : PySem.W.Frag) : List V → Hp → VK → Prop := fun vs H Q => ∃ (v : V) (x : PyData) (xs : List PyData), vs = [v] ∧ Dp K H v (.list (x :: xs)) ∧ PySem.W.AlikeAll (x :: xs) ∧ PyData.depthAll (x :: xs) ≤ 40 ∧ ∀ w, Dp K H w (PySem.W.minD x xs) → Q w H
theorem cr_minD (hc : X.calm = true) (hu : X.A.units + 64 < cLine) : CallR X (.builtin "min") (rMinD X.K) := by
  intro pins s σ H xs us Q I r h
  obtain ⟨v, x, ds, rfl, hd, hal, hdp, q⟩ := h
  obtain ⟨u, rfl, ru⟩ := vals1 r
  cases hd with
  | @lst a ys _ h1 h2 =>
    cases ru
    obtain ⟨its, rv, pl, _⟩ := I.list h1
    obtain ⟨as, rd⟩ := Dp.readsAll I _ _ _ h2 rv
    refine PySem.W.min_list_data (I.ok.hd hc) pl.isList (by simpa using rd) hal (by omega) fun i w h' tk bs hw rw' hk => ?_
    have hw2 : its[i]? = some w := by simpa using hw
    obtain ⟨y, hy, ry⟩ : ∃ y, ys[i]? = some y ∧ RelV y w := by
      cases e : ys[i]? with
      | none =>
        rw [rv.none_of e] at hw2
        cases hw2
      | some y =>
        obtain ⟨w2, e2, r2⟩ := rv.get e
        rw [hw2] at e2
        cases e2
        exact ⟨y, rfl, r2⟩
    obtain ⟨d, hdd, hp⟩ := h2.getv hy
    obtain ⟨cs, rr⟩ := Dp.reads I d y w hp ry
    have e : PySem.W.minD x ds = d := (PyProof.Rows.reads_det (fun b o e _ => hk b o e) rr rw').1
    exact ⟨y, H, I.kept (t' := tk) hk, ry, q y (by rw [e]; exact hp)⟩
/-! ### sorted of a list of data -/
def rSortedD (K : PySem.W.Frag) : List V → Hp → VK → Prop := fun vs H Q => ∃ (v : V) (ds : List PyData), vs = [v] ∧ Dp K H v (.list ds) ∧ PySem.W.AllAlike ds ∧ PySem.W.Sortable ds ∧ (∀ d ∈ ds, d.depth ≤ 40) ∧
  ∀ (ys : List V) (p : Addr), DpAll K H ys (ds.mergeSort (PySem.W.dataLe false id)) → H p = none → Q (.ref p) (upd H p (.lst ys))
end
section
variable {X : Cx} {pins : List (Addr × Obj)} {σ : L2.St} {H : Hp} {s : Shared}
theorem each_of {K : PySem.W.Frag} : ∀ {vs : List V} {us : List Value} {ds : List PyData}, Vals vs us → DpAll K H vs ds → PySem.W.EachIs (fun (u : Value) (b : PyData × V) => RelV b.2 u ∧ Dp K H b.2 b.1) us (ds.zip vs)
  | _, _, _, .nil, .nil => .nil
  | _, _, _, .cons r t, .cons h k => .cons ⟨r, h⟩ (each_of t k)
theorem vals_each {K : PySem.W.Frag} : ∀ {us : List Value} {bs : List (PyData × V)}, PySem.W.EachIs (fun (u : Value) (b : PyData × V) => RelV b.2 u ∧ Dp K H b.2 b.1) us bs → Vals (bs.map (·.2)) us ∧ DpAll K H (bs.map (·.2)) (bs.map (·.1))
  | _, _, .nil => ⟨.nil, .nil⟩
  | _, _, .cons h t => ⟨.cons h.1 (vals_each t).1, .cons h.2 (vals_each t).2⟩
theorem cr_sortedD (hu : X.A.units + 64 < cLine) : CallR X (.builtin "sorted") (rSortedD X.K) := by
  intro pins s σ H xs us Q I r h
  obtain ⟨v, ds, rfl, hd, hal, hso, hdp, q⟩ := h
  obtain ⟨u, rfl, ru⟩ := vals1 r
  cases hd with
  | @lst a ys _ h1 h2 =>
    cases ru
    obtain ⟨its, rv, pl, hz⟩ := I.list h1
    have hlen := h2.length
    have e1 : (ds.zip ys).map Prod.fst = ds := by rw [List.map_fst_zip (by omega)]
    have hE := each_of rv h2
    have e2 : (ds.zip ys).length = ds.length := by rw [List.length_zip]; omega
    refine PySem.W.sorted_data (enc := Prod.fst) pl.isList hE (hE.mono fun u b hb => Dp.reads I b.1 b.2 u hb.2 hb.1) (by rw [e1]; exact hal) (by rw [e1]; exact hso) (by rw [e2, ← hlen]; exact hz) (fun b hb => ?_) fun out hl hout => ?_
    · have := hdp b.1 (by rw [← e1]; exact List.mem_map.mpr ⟨b, hb, rfl⟩)
      omega
    · obtain ⟨k1, k2⟩ := vals_each hout
      have e3 : ((ds.zip ys).mergeSort (PySem.W.dataLe false Prod.fst)).map Prod.fst = ds.mergeSort (PySem.W.dataLe false id) := by
        have := PySem.W.sort_maps (r := PySem.W.dataLe false Prod.fst) (s := PySem.W.dataLe false id) Prod.fst (l := ds.zip ys) (fun _ _ _ _ => rfl)
        rw [this, e1]
      rw [show List.map (fun x : PyData × V => x.1) ((ds.zip ys).mergeSort (PySem.W.dataLe false Prod.fst)) = ds.mergeSort (PySem.W.dataLe false id) from e3] at k2
      obtain ⟨ep, he⟩ := PyProof.Rows.sortedAll_at s.heap its out.toArray
      have hlen2 : (List.map (fun x : PyData × V => x.2) ((ds.zip ys).mergeSort (PySem.W.dataLe false Prod.fst))).length ≤ sizeLine := by
        rw [k1.length, hl, e2, ← hlen]
        exact hz
      exact ⟨.ref _, upd H (s.heap.objs.size + 1) (.lst _), I.laid (t' := s.toks) (fun _ _ => PyProof.Rows.sortedAll_old) (Nat.le_succ _) ⟨hlen2, out, ep, k1, he⟩, rfl, q _ _ k2 (I.hok.fresh (Nat.le_succ _))⟩
/-! ### dict(d), d.update(e), list(d.values()), len(set(xs)) -/
def rDictOf : List V → Hp → VK → Prop := fun vs H Q => ∃ (a : Addr) (kvs : List (Key × V)), vs = [.ref a] ∧ H a = some (.dK kvs) ∧ ∀ p, H p = none → Q (.ref p) (upd H p (.dK kvs))
theorem cr_dictOf : CallR X (.type "dict") rDictOf := by
  intro pins s σ H xs us Q I r h
  obtain ⟨a, kvs, rfl, ha, q⟩ := h
  obtain ⟨u, rfl, ru⟩ := vals1 r
  cases ru
  exact d_copyOf I (.inl ha) fun p s' hp J => ⟨.ref p, _, J, rfl, q p hp⟩
def rUpdate : V → List V → Hp → VK → Prop := fun x vs H Q => ∃ (a b : Addr) (kvs ms : List (Key × V)), x = .ref a ∧ vs = [.ref b] ∧ a ≠ b ∧ H a = some (.dK kvs) ∧ H b = some (.dK ms) ∧ kvs.length + ms.length ≤ sizeLine ∧ Q .non (upd H a (.dK (mergeK kvs ms)))
theorem mt_update : MtR X "dict.update" rUpdate := by
  intro pins s σ H x xs v us Q I rx rxs h
  obtain ⟨a, b, kvs, ms, rfl, rfl, ne, ha, hb, hl, q⟩ := h
  cases rx
  obtain ⟨u, rfl, ru⟩ := vals1 rxs
  cases ru
  obtain ⟨z1, sy1, vs1, rel1, d1⟩ := dk_rd I.hok (.inl ha)
  obtain ⟨z2, sy2, vs2, rel2, d2⟩ := dk_rd I.hok (.inl hb)
  refine call_meetsIn PySem.F.slot_dict_update d1.typeIs PySem.F.entry_dict_update (PySem.F.args_dict_update_2 _ _) (meets_dict_update (mixKind X.prog X.w) a b ne sy2) ⟨vs1, vs2, d1, d2, by rw [← rel1.length, ← rel2.length]; exact hl, fun h' q1 q2 sb => ?_⟩
  refine ⟨.non, upd H a (.dK (mergeK kvs ms)), I.write (e := a) (t' := s.toks) (by rw [ha]; trivial) (.inl rfl) (fun b2 u2 hb2 hu2 => (sb.2 b2 hb2).trans hu2) ?_ (dk_new ?_ sy1 (rel2.merge rel1) q1), rfl, q⟩
  · obtain ⟨o, _, _, e, _⟩ := q1
    exact ⟨o, e⟩
  · exact Nat.le_trans (length_mergeK ms kvs) (by omega)
def tListVals (te : TE) : TE := fun σ H Q => te σ H fun x H1 => ∃ (d : Addr) (kvs : List (Key × V)), x = .ref d ∧ H1 d = some (.dK kvs) ∧ ∀ p, H1 p = none → Q (.ref p) (upd H1 p (.lst (kvs.map (·.2))))
theorem pe_listVals {e : Expr} {te : TE} {p pos apos cpos : Pos} (hc : X.calm = true) (he : PE X e te) (hg : Gl X "list") (hm : X.mg "list" = none) (hbase : attributeBase e "values" X.env (eval e X.env) = eval e X.env := by rfl) (hline : (apos.endLine == cpos.line) = true := by rfl)
    (hs : starEach [.Call (.Attribute e "values" apos) [] [] cpos] X.env = (false, eval (.Call (.Attribute e "values" apos) [] [] cpos) X.env) :: starEach [] X.env := by rfl) :
    PE X (.Call (.Name "list" p) [.Call (.Attribute e "values" apos) [] [] cpos] [] pos) (tListVals te) := by
  refine ⟨fun pins s σ H Q I hq => ?_⟩
  refine wpAny_Call_Name_kw (ld_blt I hg hm (u := .type "list") (by decide +kernel) ?_)
  refine PyProof.Rows.callWith_type1 ?_ hs rfl
  rw [hs]
  show wpAny _ _ (spliced ((false, eval (.Call (.Attribute e "values" apos) [] [] cpos) X.env) :: backTo pos (starEach [] X.env))) _ _ s
  refine Calls.spliced_cons ?_
  refine wpAny_Call_method (T := "dict") (id := "dict.values") hbase rfl hline F.plainAttrs_dict F.slot_dict_values F.type_dict_values (thn (he.run pins s σ H _ I hq) fun u s1 ⟨x, H1, I1, rx, d, kvs, ex, hd, q⟩ => ?_)
  subst ex
  obtain rfl : u = Value.ref d := rx
  obtain ⟨hz, hs0, vs, kv, hdo⟩ := I1.hok d _ hd
  obtain ⟨ep, hat⟩ := hdo.dictAt
  have lk : kvs.length = vs.length := Paired.length kv
  have I2 : Inv X pins σ H1 { s1 with heap := s1.heap.push { cls := .type "dict_values", data := .fields #[.ref d] } } := I1.kept (t' := s1.toks) fun b ob q => Heap.get?_push_of_some _ q
  refine ⟨hdo.typeIs, hdo.mapOf.noDict, ?_⟩
  show wpAny _ _ (callWith cpos (.builtin "dict.values") [.ref d] [] []) _ X.xe s1
  refine method_meetsIn F.slot_dict_values F.entry_dict_values rfl (PySem.evalArgs_none ⟨rfl, hdo.typeIs, F.args_dict_values_1 _, _, meets_dict_values (mixKind X.prog X.w) d hs0, ⟨vs, hdo⟩, ?_⟩)
  refine Calls.spliced_nil ?_
  refine PySem.W.kdl_call (PySem.W.kdl_values (knd := mixKind X.prog X.w) (kvs := vs) (ep := ep)) (I1.ok.hd hc) ⟨⟨_, Heap.get?_push_size _ rfl, rfl, rfl⟩, hat.push _⟩ (by rw [← lk]; exact hz) fun h' tk acc c hk hS hacc => ?_
  have hv : Vals (kvs.map (·.2)) acc.toList := by
    refine vals_of_at (by rw [List.length_map, lk]; have := hacc.1; simp only [Array.length_toList]; omega) fun j x w h1 h2 => ?_
    obtain ⟨k, hkj⟩ := hacc.2 j w (by rw [← Array.getElem?_toList]; exact h2)
    rw [List.getElem?_map] at h1
    obtain ⟨kx, hkx, ex⟩ := Option.map_eq_some_iff.mp h1
    obtain ⟨k', x'⟩ := kx
    obtain ⟨w2, e2, r2⟩ := kv_get kv hkx
    rw [hkj] at e2
    cases e2
    cases ex
    exact r2
  refine ⟨.ref _, upd H1 _ (.lst (kvs.map (·.2))), I2.laid (t' := tk) hk (Nat.le_refl _) ⟨by rw [List.length_map]; exact hz, acc.toList, c, hv, by rw [Array.toArray_toList]; exact hS⟩, rfl, q _ (I2.hok.fresh (Nat.le_refl _))⟩
/-- the first of each, in their order -/
def dedupI (ns : List Int) : List Int := ns.foldl PyProof.Rows.step_dedup []
theorem firstMet_all (ns : List Int) : PyProof.Rows.firstMet (fun i => ns.getD i 0) ns.length = dedupI ns := by
  unfold PyProof.Rows.firstMet dedupI
  congr 1
  refine List.ext_getElem? fun i => ?_
  rw [List.getElem?_map]
  by_cases h : i < ns.length
  · rw [List.getElem?_range h, List.getElem?_eq_getElem h]
    simp [List.getElem?_eq_getElem h]
  · rw [List.getElem?_eq_none (by simpa using h), List.getElem?_eq_none (by omega)]
    rfl
def tLenSetD (K : PySem.W.Frag) (ta : TE) : TE := fun σ H Q => ta σ H fun x H1 => ∃ (l : Addr) (ns : List Int), x = .ref l ∧ SqL K H1 l (ns.map V.int) ∧ ns.length ≤ 4000 ∧ Q (.int ((dedupI ns).length : Nat)) H1
theorem pe_lenSetD {a : Expr} {ta : TE} {p p2 q pos : Pos} (hg : Gl X "len") (hm : X.mg "len" = none) (hg2 : Gl X "set") (hm2 : X.mg "set" = none) (ha : PE X a ta) (hc : X.calm = true := by rfl)
    (na : starEach [a] X.env = (false, eval a X.env) :: starEach [] X.env := by rfl) : PE X (.Call (.Name "len" p) [.Call (.Name "set" p2) [a] [] q] [] pos) (tLenSetD X.K ta) := by
  refine ⟨fun pins s σ H Q I h => ?_⟩
  refine Call_ (ld_blt I hg hm boot_len ?_)
  refine PyProof.Rows.callWith_builtin1 (PyProof.Rows.args_cons ?_ rfl) rfl rfl
  refine Call_ (ld_blt I hg2 hm2 boot_set ?_)
  refine PyProof.Rows.callWith_type1 (PyProof.Rows.args_cons (thn (ha.run pins s σ H _ I h) fun v s1 ⟨x, H1, I1, r1, q1⟩ => PyProof.Rows.args_nil ?_) na) na rfl
  obtain ⟨l, ns, rfl, hq, hl, q1⟩ := q1
  cases r1
  obtain ⟨its, r, pl, hz⟩ := I1.list hq
  have hlen : its.toArray.size = ns.length := by rw [List.size_toArray, ← r.length, List.length_map]
  have hle : (dedupI ns).length ≤ ns.length := by
    rw [← firstMet_all]
    exact PyProof.Rows.firstMet_length_le _ _
  refine call_set_list (I1.ok.hd hc) pl.isList (by simpa using RZ.intsAre_vals r) (by rw [hlen]; unfold scanBound; omega) fun h' tk hS hk => ?_
  refine PyProof.Rows.args_nil ?_
  rw [hlen, firstMet_all] at hS
  obtain ⟨o, es, ep, t, ho, hex, hd, _, _, _, hf, hn⟩ := hS
  have I2 : Inv X pins σ H1 { s1 with heap := h', toks := tk } := I1.kept fun b o e => hk b o (Heap.lt_size e) e
  exact call_len_set ho hex hd hf (by rw [hn] <;> omega) ⟨.int (dedupI ns).length, H1, I2.tok _, ⟨_, by rw [hn]⟩, q1⟩
end
end Nk
/-! ## K3: the text by places, calls by name, calls where no repr is under way -/
namespace Nk
open PySem PySem.Spec PyProof.Rows L2 Evl

def top (i : Nat) : Stmt := PySem.Challenge.pw_netsredrawn_k13_whole_least_forms.main.body.getD i (.Pass ⟨0, 0, 0, 0⟩)
def mkD (i : Nat) (x : String) : He.DefD := ⟨(Str.ofString x, none), Str.ofString x, Str.ofString x, defArgs (top i), defBody (top i), defScope (top i), [], []⟩
abbrev FnT (K : PySem.W.Frag) (i : Nat) (x : Str) (f : Addr) (fd : FuncData) : Prop := FunD K x x (defArgs (top i)) (defBody (top i)) (defScope (top i)) [] [] f fd

/-- a def that is known by its name: its promise -/
structure Kn (P : Program) (w : World) (K : PySem.W.Frag) (mg : Str → Option Value) (base : Heap) (CX : CXT) (k : Nat) (x : Str) (ps : List Str) (sp : Sp) : Prop where
  ex : ∃ (f : Addr) (fd : FuncData), FnOk P w K mg base CX k f fd ps sp ∧ mg x = some (.ref f) ∧ PySem.W.keepIn K (.ref f) = true ∧ Binds K fd ps []
/-- the same where no guard is under way -/
structure FnG (P : Program) (w : World) (K : PySem.W.Frag) (mg : Str → Option Value) (base : Heap) (k : Nat) (f : Addr) (fd : FuncData) (ps : List Str) (sp : Sp) : Prop where
  len : ∀ vs H Q E, sp vs H Q E → vs.length = ps.length
  run : ∀ (A : Around) (outer : List Env) (s : Shared) (H : Hp) (args : Args) (us : List Value) (vs : List V) (Q : VK) (E : XK), Room k A → A.guards = some [] → Env0 P w K mg base A outer s H →
    BindsTo s fd args (ps.zip us) → Vals vs us → sp vs H Q E → codeAny (model P w) A (.call (.ref f) args) (CR CX0 outer P w H s Q E) s
structure KnG (P : Program) (w : World) (K : PySem.W.Frag) (mg : Str → Option Value) (base : Heap) (k : Nat) (x : Str) (ps : List Str) (sp : Sp) : Prop where
  ex : ∃ (f : Addr) (fd : FuncData), FnG P w K mg base k f fd ps sp ∧ mg x = some (.ref f) ∧ PySem.W.keepIn K (.ref f) = true ∧ Binds K fd ps []

section
variable {X : Cx} {CX : CXT} {k : Nat} {ps : List Str} {sp : Sp} {E : XK} {x : Str} {p pos : Pos} {e : Expr} {es : List Expr} {t : TA}
theorem pe_kn (F : Kn X.prog X.w X.K X.mg X.base CX k x ps sp) (hr : Room k X.A) (hg : Gl X x) (hx : Passes CX X E) (ha : PA X (e :: es) t) (hdb : (x == ("__debug__" : Str)) = false := by decide)
    (he : starEach (e :: es) X.env = (false, eval e X.env) :: starEach es X.env := by rfl) (hpl : (backTo pos (starEach es X.env)).any (·.1) = false := by rfl) :
    PE X (.Call (.Name x p) (e :: es) [] pos) (tCall sp [] E t) := by
  obtain ⟨f, fd, F, hm, hk, hb⟩ := F.ex
  exact pe_call F hr hg hm hk hb .nil hx ha hdb he hpl
theorem pe_kg (F : KnG X.prog X.w X.K X.mg X.base k x ps sp) (hr : Room k X.A) (hG : X.A.guards = some []) (hg : Gl X x) (ha : PA X (e :: es) t) (hdb : (x == ("__debug__" : Str)) = false := by decide)
    (he : starEach (e :: es) X.env = (false, eval e X.env) :: starEach es X.env := by rfl) (hpl : (backTo pos (starEach es X.env)).any (·.1) = false := by rfl) :
    PE X (.Call (.Name x p) (e :: es) [] pos) (tCall sp [] E0 t) := by
  obtain ⟨f, fd, F, hm, hk, hb⟩ := F.ex
  refine ⟨fun pins s σ H Q I h => wpAny_Call_Name_kw (ld_glob I hg hm ?_ hdb)⟩
  refine PySem.W.callWith_K (h₀ := X.base) I.ok.mod.kin hk (thn (ha.run pos pins s σ H _ I h) fun us s1 hu => ?_) he hpl
  obtain ⟨vs, H1, I1, r, q⟩ := hu
  refine ⟨I1.kIn, ?_⟩
  have q1 : sp vs H1 Q E0 := by
    have z : sp (vs ++ []) H1 Q E0 := q
    rwa [List.append_nil] at z
  have hl : us.length = ps.length := by rw [← r.length]; exact F.len _ _ _ _ q1
  have bt := hb s1 us I1.kIn (by rw [List.append_nil]; exact hl)
  rw [List.append_nil] at bt
  refine wpAny_call (codeAny_mono (F.run X.A X.stack s1 H1 ⟨us, []⟩ us vs Q E0 hr hG I1.env0 bt r q1) fun r s' hq => ?_)
  cases r with
  | error e => exact False.elim hq
  | ok fl =>
    cases fl with
    | ret u => exact I1.after hq
    | next => exact False.elim hq
    | brk => exact False.elim hq
    | cont => exact False.elim hq
end
section
variable {P : Program} {w : World} {K : PySem.W.Frag} {mg : Str → Option Value} {base : Heap}
theorem Kn.mono {CX : CXT} {j k : Nat} {x : Str} {ps : List Str} {sp : Sp} (F : Kn P w K mg base CX j x ps sp) (h : j ≤ k) : Kn P w K mg base CX k x ps sp := by
  obtain ⟨f, fd, F, r⟩ := F.ex
  exact ⟨f, fd, F.mono h, r⟩
/-- a def of the text that lets nothing out, by its body -/
theorem kn_ok {i : Nat} {x : Str} {f : Addr} {fd : FuncData} {N ps : List Str} {k : Nat} {sp : Sp} (F : FnT K i x f fd) (hm : mg x = some (.ref f)) (S : FnScope N ps (defScope (top i)))
    (hb : ∀ (kV doc pm : Value) (an : Option Addr) (cdv ct : Value) (us : List Value), us.length = ps.length → bindArgs (PySem.W.fnOf x x (defArgs (top i)) (defBody (top i)) (defScope (top i)) .none kV doc pm an cdv ct) ⟨us, []⟩ = pure (ps.zip us))
    (len : ∀ vs H Q E, sp vs H Q E → vs.length = ps.length)
    (hbody : ∀ (cdv : Value) (A : Around) (outer : List Env) (s : Shared) (H : Hp) (vs : List V) (Q : VK) (E : XK), Room k (A.deeper (envOfC x (defScope (top i)) s.heap.objs.size f cdv)) → sp vs H Q E →
      ∃ t, PSs (cxOf CX0 P w K mg base N x (defScope (top i)) f cdv A outer s H E).nox (defBody (top i)) t ∧ t { nx := fun _ H' => Q .non H', rt := Q } (start N vs) H) : Kn P w K mg base CX0 (k + 1) x ps sp :=
  ⟨f, fd, F.ok S len fun cdv A outer s H vs Q E hr h => by
    obtain ⟨t, a, b⟩ := hbody cdv A outer s H vs Q E hr h
    exact ⟨t, a.nox, b⟩, hm, F.kp, F.bindsN hb⟩
/-- a def of the text that may raise -/
theorem kn_okX {i : Nat} {x : Str} {f : Addr} {fd : FuncData} {N ps : List Str} {k : Nat} {sp : Sp} (F : FnT K i x f fd) (hm : mg x = some (.ref f)) (S : FnScope N ps (defScope (top i)))
    (hb : ∀ (kV doc pm : Value) (an : Option Addr) (cdv ct : Value) (us : List Value), us.length = ps.length → bindArgs (PySem.W.fnOf x x (defArgs (top i)) (defBody (top i)) (defScope (top i)) .none kV doc pm an cdv ct) ⟨us, []⟩ = pure (ps.zip us))
    (len : ∀ vs H Q E, sp vs H Q E → vs.length = ps.length)
    (hbody : ∀ (cdv : Value) (A : Around) (outer : List Env) (s : Shared) (H : Hp) (vs : List V) (Q : VK) (E : XK), Room k (A.deeper (envOfC x (defScope (top i)) s.heap.objs.size f cdv)) → sp vs H Q E →
      ∃ t, PSs (cxOf (L2.CX P w) P w K mg base N x (defScope (top i)) f cdv A outer s H E) (defBody (top i)) t ∧ t { nx := fun _ H' => Q .non H', rt := Q } (start N vs) H) : Kn P w K mg base (L2.CX P w) (k + 1) x ps sp :=
  ⟨f, fd, F.ok S len fun cdv A outer s H vs Q E hr h => hbody cdv A outer s H vs Q E hr h, hm, F.kp, F.bindsN hb⟩
/-- a def of the text, called where no guard is under way -/
theorem fng_ok {i : Nat} {x : Str} {f : Addr} {fd : FuncData} {N ps : List Str} {k : Nat} {sp : Sp} (F : FnT K i x f fd) (S : FnScope N ps (defScope (top i)))
    (len : ∀ vs H Q E, sp vs H Q E → vs.length = ps.length)
    (hbody : ∀ (cdv : Value) (A : Around) (outer : List Env) (s : Shared) (H : Hp) (vs : List V) (Q : VK) (E : XK), Room k (A.deeper (envOfC x (defScope (top i)) s.heap.objs.size f cdv)) → A.guards = some [] → sp vs H Q E →
      ∃ t, PSs (cxOf CX0 P w K mg base N x (defScope (top i)) f cdv A outer s H E).nox (defBody (top i)) t ∧ t { nx := fun _ H' => Q .non H', rt := Q } (start N vs) H) : FnG P w K mg base (k + 1) f fd ps sp := by
  obtain ⟨oc, od, dV, kV, doc, pm, an, cdv, ct, osl, rfl, lk, hcd, _, _⟩ := F.ex
  refine ⟨len, fun A outer s H args us vs Q E hr hG e0 bt r hs => ?_⟩
  have hl := len _ _ _ _ hs
  have inK : K.In s.heap := e0.mod.kin.keeps fun b o z => (e0.bs b o z).1
  have noLim : s.heap.NoLimit := e0.mod.nolimit.keeps fun b o z => (e0.bs b o z).1
  refine codeAny_call_function hr.depth (inK _ _ lk) rfl S.co S.gen rfl (PySem.W.codeRec_of inK hcd) (bt _ _ _ _ ?_)
  refine wpAny_newFunctionEnv_cells S.kind (fun y hy => ?_) fun env he s1 ic => ?_
  · rcases S.par y.1 (List.of_mem_zip (show (y.1, y.2) ∈ ps.zip us from hy)).1 with q | q
    · exact .inl q
    · exact .inr ⟨q, PySem.W.cellsFrom_some _ _ _ (.inl q)⟩
  · subst he
    refine ⟨noLim.keeps ic.toInCall.keep, codeAny_func ?_⟩
    obtain ⟨t, ht, hq⟩ := hbody cdv A outer s H vs Q E (hr.deeper _) hG hs
    have J : Inv (cxOf CX0 P w K mg base N x (defScope (top i)) f cdv A outer s H E) [] (start N vs) H s1 := inv_start S hr.hd e0 hl r ic
    refine wpAny_mono (ht.nox.run [] s1 (start N vs) H _ J hq) (fun fl s' hz => ?_) fun e s' hz => hz
    cases fl with
    | ret u =>
      obtain ⟨v, σ', H', J', rv, q⟩ := hz
      exact ⟨v, H', J'.os, J'.bare, J'.base, J'.hok, rv, q⟩
    | next =>
      obtain ⟨σ', H', J', q⟩ := hz
      exact ⟨.non, H', J'.os, J'.bare, J'.base, J'.hok, rfl, q⟩
    | brk =>
      obtain ⟨_, _, _, q⟩ := hz
      exact False.elim q
    | cont =>
      obtain ⟨_, _, _, q⟩ := hz
      exact False.elim q
theorem kng_ok {i : Nat} {x : Str} {f : Addr} {fd : FuncData} {N ps : List Str} {k : Nat} {sp : Sp} (F : FnT K i x f fd) (hm : mg x = some (.ref f)) (S : FnScope N ps (defScope (top i)))
    (hb : ∀ (kV doc pm : Value) (an : Option Addr) (cdv ct : Value) (us : List Value), us.length = ps.length → bindArgs (PySem.W.fnOf x x (defArgs (top i)) (defBody (top i)) (defScope (top i)) .none kV doc pm an cdv ct) ⟨us, []⟩ = pure (ps.zip us))
    (len : ∀ vs H Q E, sp vs H Q E → vs.length = ps.length)
    (hbody : ∀ (cdv : Value) (A : Around) (outer : List Env) (s : Shared) (H : Hp) (vs : List V) (Q : VK) (E : XK), Room k (A.deeper (envOfC x (defScope (top i)) s.heap.objs.size f cdv)) → A.guards = some [] → sp vs H Q E →
      ∃ t, PSs (cxOf CX0 P w K mg base N x (defScope (top i)) f cdv A outer s H E).nox (defBody (top i)) t ∧ t { nx := fun _ H' => Q .non H', rt := Q } (start N vs) H) : KnG P w K mg base (k + 1) x ps sp :=
  ⟨f, fd, fng_ok F S len hbody, hm, F.kp, F.bindsN hb⟩
end
end Nk
/-! ## K4: what the top leaves, nets as lists, small words for walks -/
namespace Nk
open PySem PySem.Spec PyProof.Rows L2 Evl

/-! names of the language -/
theorem bt_len : bootBuiltins "len" = some (.builtin "len") := by decide +kernel
theorem bt_isinstance : bootBuiltins "isinstance" = some (.builtin "isinstance") := by decide +kernel
theorem bt_sorted : bootBuiltins "sorted" = some (.builtin "sorted") := by decide +kernel
theorem bt_min : bootBuiltins "min" = some (.builtin "min") := by decide +kernel
theorem bt_all : bootBuiltins "all" = some (.builtin "all") := by decide +kernel
theorem bt_any : bootBuiltins "any" = some (.builtin "any") := by decide +kernel
theorem bt_repr : bootBuiltins "repr" = some (.builtin "repr") := by decide +kernel
theorem bt_tuple : bootBuiltins "tuple" = some (.type "tuple") := by decide +kernel
theorem bt_list : bootBuiltins "list" = some (.type "list") := by decide +kernel
theorem bt_dict : bootBuiltins "dict" = some (.type "dict") := by decide +kernel
theorem bt_int : bootBuiltins "int" = some (.type "int") := by decide +kernel
theorem bt_bool : bootBuiltins "bool" = some (.type "bool") := by decide +kernel
/-! ### rules told by K itself (a block's reading may not name the block) -/
section
variable {X : Cx} {K : PySem.W.Frag}
theorem ixK_tup (h : X.K = K) : IxR X (rIxT K) := h ▸ ix_tup
theorem ixK_list (h : X.K = K) : IxR X (rIxL K) := h ▸ ix_list
theorem cK_len (h : X.K = K) : CallR X (.builtin "len") (fun xs H Q => ∃ p ys, xs = [.ref p] ∧ (SqL K H p ys ∨ SqT K H p ys) ∧ Q (.int ys.length) H) := h ▸ call_len_seq
theorem cK_tuple (h : X.K = K) : CallR X (.type "tuple") (fun xs H Q => ∃ p ys, xs = [.ref p] ∧ ((SqL K H p ys ∧ ∀ l, H l = none → Q (.ref l) (upd H l (.tup ys))) ∨ (SqT K H p ys ∧ Q (.ref p) H))) := h ▸ call_tuple_of
theorem cK_list (h : X.K = K) : CallR X (.type "list") (fun xs H Q => ∃ p ys, xs = [.ref p] ∧ (SqL K H p ys ∨ SqT K H p ys) ∧ ∀ l, H l = none → Q (.ref l) (upd H l (.lst ys))) := h ▸ call_list_of
theorem opK_cat (h : X.K = K) : OpR X (binaryOp .Add) (rCatA K) := h ▸ op_catA
theorem slK_tup (h : X.K = K) : SlR X (rSlA K) := h ▸ sl_tupA
theorem slK_list (h : X.K = K) : SlR X (rSlL K) := h ▸ sl_list
theorem opK_eqD (h : X.K = K) (hu : X.A.units + 64 < cLine) : OpR X (compareOp .Eq) (rEqD K) := h ▸ op_eqD hu
theorem opK_neD (h : X.K = K) (hu : X.A.units + 64 < cLine) : OpR X (compareOp .NotEq) (rNeD K) := h ▸ op_neD hu
theorem opK_ltD (h : X.K = K) (hu : X.A.units + 64 < cLine) : OpR X (compareOp .Lt) (rLtD K) := h ▸ op_ltD hu
theorem opK_in (h : X.K = K) : OpR X (compareOp .In) (rIn K false) := h ▸ op_in_seq
theorem opK_notIn (h : X.K = K) : OpR X (compareOp .NotIn) (rIn K true) := h ▸ op_notIn_seq
theorem cK_any (h : X.K = K) (hc : X.calm = true) : CallR X (.builtin "any") (rAny K) := h ▸ cr_any hc
theorem cK_all (h : X.K = K) (hc : X.calm = true) : CallR X (.builtin "all") (rAll K) := h ▸ cr_all hc
theorem cK_sortedI (h : X.K = K) : CallR X (.builtin "sorted") (rSortedI K) := h ▸ cr_sortedI
theorem cK_sortedD (h : X.K = K) (hu : X.A.units + 64 < cLine) : CallR X (.builtin "sorted") (rSortedD K) := h ▸ cr_sortedD hu
theorem cK_minD (h : X.K = K) (hc : X.calm = true) (hu : X.A.units + 64 < cLine) : CallR X (.builtin "min") (rMinD K) := h ▸ cr_minD hc hu
theorem cK_isi (h : X.K = K) : CallR X (.builtin "isinstance") (rIsi K) := h ▸ call_isi
theorem cK_repr (h : X.K = K) (hs : SysD K) (hg : X.A.guards = some []) (hu : X.A.units + 64 < cLine) : CallR X (.builtin "repr") (rReprD K) := by
  subst h
  exact call_reprD hs hg hu
theorem piK_list {tg l : Expr} {tl : TE} (h : X.K = K) (hl : PE X l tl) : PI X tg l (iList K tl) := h ▸ pi_list hl
theorem piK_tup {tg l : Expr} {tl : TE} (h : X.K = K) (hl : PE X l tl) : PI X tg l (iTup K tl) := h ▸ pi_tup hl
theorem piK_enum {e : Expr} {ta : TA} {p pos tpos : Pos} {elts : List Expr} {kk : Nat} (h : X.K = K) (hg : Gl X "enumerate") (hm : X.mg "enumerate" = none) (ha : PA X [e] ta) (hs : starEach [e] X.env = [(false, eval e X.env)] := by rfl) :
    PI X (.Tuple elts kk tpos) (.Call (.Name "enumerate" p) [e] [] pos) (iEnum K ta) := h ▸ pi_enum hg hm ha hs
theorem piK_zip {e e2 : Expr} {ta : TA} {p pos tpos : Pos} {elts : List Expr} {kk : Nat} (h : X.K = K) (hg : Gl X "zip") (hm : X.mg "zip" = none) (ha : PA X [e, e2] ta)
    (hs : starEach [e, e2] X.env = (false, eval e X.env) :: starEach [e2] X.env := by rfl) (hpl : (backTo pos (starEach [e2] X.env)).any (·.1) = false := by rfl) :
    PI X (.Tuple elts kk tpos) (.Call (.Name "zip" p) [e, e2] [] pos) (RZ.iZipA K ta) := h ▸ RZ.pi_zipA hg hm ha hs hpl
theorem pe_bmK {T name id : String} {r : V → List V → Hp → VK → Prop} {o e : Expr} {es : List Expr} {to : TE} {t : TA} {apos cpos : Pos} (h : X.K = K) (pa : PlainAttrs T) (slot : Slot T name id) (hty : typeOf (.builtin id) = pure (.type "method_descriptor")) (hm : MtR X id r) (ho : PE X o to) (ha : PA X (e :: es) t)
    (hbase : attributeBase o name X.env (eval o X.env) = eval o X.env := by rfl)
    (hfew : ((backTo cpos (starEach (e :: es) X.env)).all (fun x => !x.1) && (backToKw cpos (keywordEach [] X.env)).all (fun x => x.1.isSome)
      && decide ((e :: es).length + ([] : List Keyword).length + (if ([] : List Keyword).isEmpty then 0 else 1) < 30)) = true := by rfl)
    (hline : (apos.endLine == cpos.line) = true := by rfl) (hs : starEach (e :: es) X.env = (false, eval e X.env) :: starEach es X.env := by rfl) (hplain : (backTo cpos (starEach es X.env)).any (·.1) = false := by rfl) :
    PE X (.Call (.Attribute o name apos) (e :: es) [] cpos) (tBM K T r to t) := h ▸ pe_bm pa slot hty hm ho ha hbase hfew hline hs hplain
end
def defsL : List (Nat × String) := [(7, "is_whole"), (8, "is_within"), (9, "is_tuple_of"), (12, "has_form"), (13, "breaks"), (14, "net_fault"), (15, "need_net"), (16, "need_flag"), (17, "met_from"), (18, "numbered"), (19, "all_parts"), (20, "parts"), (21, "need_joined"), (22, "laid_beside"), (24, "reading_from"), (25, "least_reading"), (26, "least_parts"), (27, "least_net"), (28, "spread"), (29, "free_spread"), (30, "found_likeness"), (31, "likeness"), (32, "are_alike"), (33, "likeness_fault"), (34, "is_likeness"), (35, "need_likeness"), (37, "_law_mixed"), (38, "_law_folded"), (39, "_law_draw"), (40, "_law_begun"), (41, "_law_like"), (42, "_law_of"), (43, "_law_is_int"), (44, "_law_order"), (45, "_law_numbered"), (46, "_law_paired"), (47, "_law_net"), (48, "_law_part"), (49, "_law_parts"), (50, "_law_joined"), (51, "_law_match"), (52, "_law_laid"), (53, "_law_far_net"), (54, "_law_glue"), (55, "_law_even_net"), (56, "_law_least_reading"), (57, "_law_least"), (58, "_law_all_likenesses"), (59, "_law_fresh"), (60, "_law_near"), (61, "_law_place"), (62, "_law_needed"), (63, "_law_read"), (64, "_law_right_value"), (65, "_law_right_two"), (66, "_law_right_reading"), (67, "law")]
structure Txt (K : PySem.W.Frag) (mg : Str → Option Value) : Prop where
  df : ∀ (k : Nat) {p : Nat × String}, defsL[k]? = some p → ∃ f fd, FnT K p.1 (Str.ofString p.2) f fd ∧ mg (Str.ofString p.2) = some (.ref f)
  sys : SysD K
  most : ∃ t, mg "MOST_FLAGS" = some (.int 960 t)
  len : mg "len" = none
  isinstance : mg "isinstance" = none
  all : mg "all" = none
  any : mg "any" = none
  range : mg "range" = none
  tuple : mg "tuple" = none
  enumerate : mg "enumerate" = none
  sorted : mg "sorted" = none
  zip : mg "zip" = none
  set : mg "set" = none
  list : mg "list" = none
  min : mg "min" = none
  dict : mg "dict" = none
  repr : mg "repr" = none
  int : mg "int" = none
  bool : mg "bool" = none
  super : mg "super" = none

/-! ### nets -/
abbrev Net := List (List Nat)
def encN (n : Nat) : PyData := .int n
def encR (l : List Nat) : PyData := .tuple (l.map encN)
def encL (l : List Nat) : PyData := .list (l.map encN)
def encNet (s : Net) : PyData := .tuple (s.map encR)
def nv (n : Nat) : V := .int n
def nl (l : List Nat) : List V := l.map nv
def ap (s : Net) (c f : Nat) : Nat := (s.getD c []).getD f 0
/-- three rows of one length, all their items below it -/
structure Form (n : Nat) (s : Net) : Prop where
  three : s.length = 3
  len : ∀ r ∈ s, r.length = n
  lt : ∀ r ∈ s, ∀ x ∈ r, x < n
theorem Form.at {n : Nat} {s : Net} (F : Form n s) {c f : Nat} (hc : c < 3) (hf : f < n) : ap s c f < n := by
  unfold ap
  have h1 : c < s.length := by rw [F.three]; exact hc
  have e1 : s.getD c [] = s[c] := by simp [List.getElem?_eq_getElem h1]
  have m1 : s[c] ∈ s := List.getElem_mem h1
  have h2 : f < s[c].length := by rw [F.len _ m1]; exact hf
  rw [e1]
  have e2 : s[c].getD f 0 = s[c][f] := by simp [List.getElem?_eq_getElem h2]
  rw [e2]
  exact F.lt _ m1 _ (List.getElem_mem h2)

/-! ### dicts with numbers as keys -/
def kd (row : List Nat) (b : V) : List (Key × V) := row.map fun (n : Nat) => ((Sum.inl (n : Int) : Key), b)
theorem keyN_inj {a b : Nat} : ((Sum.inl (a : Int) : Key) = Sum.inl (b : Int)) ↔ a = b := by
  constructor
  · intro h
    have := Sum.inl.inj h
    omega
  · rintro rfl
    rfl
theorem valV_kd (b : V) (t : Nat) : ∀ row : List Nat, valV (kd row b) (Sum.inl (t : Int)) = if t ∈ row then some b else none
  | [] => rfl
  | x :: row => by
    show valV (((Sum.inl (x : Int) : Key), b) :: kd row b) (Sum.inl (t : Int)) = _
    by_cases h : x = t
    · subst h
      rw [valV_pos rfl, if_pos List.mem_cons_self]
    · rw [valV_neg (fun e => h (keyN_inj.mp e)), valV_kd b t row]
      by_cases h2 : t ∈ row
      · rw [if_pos h2, if_pos (List.mem_cons_of_mem _ h2)]
      · rw [if_neg h2, if_neg (fun z => (List.mem_cons.mp z).elim (fun e => h e.symm) h2)]
theorem putK_kd {b : V} {t : Nat} {row : List Nat} (h : t ∉ row) : putK (kd row b) (Sum.inl (t : Int)) b = kd (row ++ [t]) b := by
  rw [putK_new b (by rw [valV_kd, if_neg h])]
  unfold kd
  rw [List.map_append]
  rfl
theorem kd_len (row : List Nat) (b : V) : (kd row b).length = row.length := by unfold kd; rw [List.length_map]
/-- a dict from numbers to numbers, in order -/
def kp (ps : List (Nat × Nat)) : List (Key × V) := ps.map fun (p : Nat × Nat) => ((Sum.inl (p.1 : Int) : Key), nv p.2)
def lk (ps : List (Nat × Nat)) (t : Nat) : Option Nat := (ps.find? fun p => p.1 == t).map (·.2)
theorem valV_kp (t : Nat) : ∀ ps : List (Nat × Nat), valV (kp ps) (Sum.inl (t : Int)) = (lk ps t).map nv
  | [] => rfl
  | (x, y) :: ps => by
    show valV (((Sum.inl (x : Int) : Key), nv y) :: kp ps) (Sum.inl (t : Int)) = _
    unfold lk
    by_cases h : x = t
    · subst h
      rw [valV_pos rfl, List.find?_cons_of_pos (by simp)]
      rfl
    · rw [valV_neg (fun e => h (keyN_inj.mp e)), valV_kp t ps, List.find?_cons_of_neg (by simpa using h)]
      rfl
theorem putK_kp {t y : Nat} {ps : List (Nat × Nat)} (h : lk ps t = none) : putK (kp ps) (Sum.inl (t : Int)) (nv y) = kp (ps ++ [(t, y)]) := by
  rw [putK_new _ (by rw [valV_kp, h]; rfl)]
  unfold kp
  rw [List.map_append]
  rfl
theorem kp_len (ps : List (Nat × Nat)) : (kp ps).length = ps.length := by unfold kp; rw [List.length_map]
theorem lk_none {ps : List (Nat × Nat)} {t : Nat} : lk ps t = none ↔ t ∉ ps.map (·.1) := by
  unfold lk
  rw [Option.map_eq_none_iff, List.find?_eq_none]
  constructor
  · intro h m
    obtain ⟨p, hp, e⟩ := List.mem_map.mp m
    exact h p hp (by simpa using e)
  · intro h p hp e
    exact h (List.mem_map.mpr ⟨p, hp, by simpa using e⟩)

/-! ### data of numbers -/
section
variable {K : PySem.W.Frag} {H : Hp} {v : V} {vs : List V}
theorem dpNl : ∀ l : List Nat, DpAll K H (nl l) (l.map encN)
  | [] => .nil
  | n :: l => .cons (.int n) (dpNl l)
theorem nl_of : ∀ {l : List Nat} {vs : List V}, DpAll K H vs (l.map encN) → vs = nl l
  | [], _, h => by cases h; rfl
  | n :: l, _, h => by
    cases h with
    | cons h1 h2 =>
      cases h1
      rw [nl_of h2]
      rfl
theorem nl_len (l : List Nat) : (nl l).length = l.length := by unfold nl; rw [List.length_map]
theorem nl_get {l : List Nat} {i n : Nat} (h : l[i]? = some n) : (nl l)[i]? = some (nv n) := by unfold nl; rw [List.getElem?_map, h]; rfl
theorem nl_app (l m : List Nat) : nl (l ++ m) = nl l ++ nl m := by unfold nl; rw [List.map_append]
theorem dp_L {l : List Nat} {a : Addr} (h : SqL K H a (nl l)) : Dp K H (.ref a) (encL l) := .lst h (dpNl l)
theorem dp_R {l : List Nat} {a : Addr} (h : SqT K H a (nl l)) : Dp K H (.ref a) (encR l) := .tup h (dpNl l)
theorem dp_ofL {l : List Nat} (h : Dp K H v (encL l)) : ∃ a, v = .ref a ∧ SqL K H a (nl l) := by
  cases h with
  | @lst a xs _ h1 h2 => exact ⟨a, rfl, by rw [nl_of h2] at h1; exact h1⟩
theorem dp_ofR {l : List Nat} (h : Dp K H v (encR l)) : ∃ a, v = .ref a ∧ SqT K H a (nl l) := by
  cases h with
  | @tup a xs _ h1 h2 => exact ⟨a, rfl, by rw [nl_of h2] at h1; exact h1⟩
theorem dp_ofNet {s : Net} (h : Dp K H v (encNet s)) : ∃ a xs, v = .ref a ∧ SqT K H a xs ∧ DpAll K H xs (s.map encR) := by
  cases h with
  | @tup a xs _ h1 h2 => exact ⟨a, xs, rfl, h1, h2⟩
theorem atI_n {α : Type} {xs : List α} {i : Nat} {v : α} (h : xs[i]? = some v) : atI xs ((i : Nat) : Int) = some v := atI_nat h
theorem flat_R (l : List Nat) : flatT (encR l) = true := by
  unfold encR
  rw [flatT]
  exact flatTs_of fun d hd => by
    obtain ⟨n, _, rfl⟩ := List.mem_map.mp hd
    rfl
theorem flat_Net (s : Net) : flatT (encNet s) = true := by
  unfold encNet
  rw [flatT]
  exact flatTs_of fun d hd => by
    obtain ⟨l, _, rfl⟩ := List.mem_map.mp hd
    exact flat_R l
end
/-! ### more words for statements -/
section
variable {K : PySem.W.Frag} {σ : L2.St} {H H' : Hp} {ta tb te tx tk tv : TE} {t : TT} {v b : V} {D : Ends} {tu tw tz : TS}
/-- name = {k: v} -/
theorem asgD1 {i : Nat} {k : Int} (hk : Ev tk σ H (.int k)) (hv : Ev tv σ H b) (c : ∀ p H1, H p = none → Ex H H1 → H1 p = some (.dK [((Sum.inl k : Key), b)]) → tz D (σ.set i (some (.ref p))) H1) :
    tSeq (tAsg (tDisp [(tk, tv)]) (gName i)) tz D σ H := by
  show tDisp [(tk, tv)] σ H (fun v H1 => gName i v σ H1 (tz D))
  intro p hp
  refine hk (upd H p (.dK [])) (Ex.new hp) _ fun H2 e2 => ?_
  refine hv H2 ((Ex.new hp).trans e2) _ fun H3 e3 => ?_
  have h3 : H3 p = some (.dK []) := e3 p _ (e2 p _ upd_same)
  refine ⟨h3, [((Sum.inl k : Key), b)], rfl, (by show 1 ≤ 15; omega), ?_⟩
  refine c p _ hp (Ex.mut ((Ex.new hp).trans (e2.trans e3)) hp) ?_
  rw [upd_same]
  rfl
/-- name = {} -/
theorem asgD0 {i : Nat} (c : ∀ p, H p = none → tz D (σ.set i (some (.ref p))) (upd H p (.dK []))) : tSeq (tAsg tDNewK (gName i)) tz D σ H := fun p hp => c p hp
/-- d[k] = v -/
theorem putD {d : Addr} {kvs : List (Key × V)} {k : Int} (hd : H d = some (.dK kvs)) (hv : Ev tv σ H b) (ho : Ev te σ H (.ref d)) (hk : Ev tk σ H (.int k)) (hl : kvs.length < 100000) (c : ∀ H1, Ex H H1 → tz D σ (upd H1 d (.dK (putK kvs (Sum.inl k) b)))) :
    tSeq (sDPut te tk tv) tz D σ H := by
  show tv σ H _
  refine hv H (Ex.refl H) _ fun H1 e1 => ho H1 e1 _ fun H2 e2 => hk H2 (e1.trans e2) _ fun H3 e3 => ?_
  exact ⟨d, _, rfl, DPut.k (k := Sum.inl k) (e3 d _ (e2 d _ (e1 d _ hd))) (sz_lt hl), c H3 (e1.trans (e2.trans e3))⟩
theorem putD1 {d : Addr} {kvs : List (Key × V)} {k : Int} (hd : H d = some (.dK kvs)) (hv : Ev tv σ H b) (ho : Ev te σ H (.ref d)) (hk : Ev tk σ H (.int k)) (hl : kvs.length < 100000) (c : ∀ H1, Ex H H1 → D.nx σ (upd H1 d (.dK (putK kvs (Sum.inl k) b)))) :
    sDPut te tk tv D σ H := by
  show tv σ H _
  refine hv H (Ex.refl H) _ fun H1 e1 => ho H1 e1 _ fun H2 e2 => hk H2 (e1.trans e2) _ fun H3 e3 => ?_
  exact ⟨d, _, rfl, DPut.k (k := Sum.inl k) (e3 d _ (e2 d _ (e1 d _ hd))) (sz_lt hl), c H3 (e1.trans (e2.trans e3))⟩
/-- k in d, k not in d, d[k] -/
theorem et_in {d : Addr} {kvs : List (Key × V)} {k : Int} (hd : H d = some (.dK kvs)) (hk : Ev tk σ H (.int k)) (ho : Ev te σ H (.ref d)) : EvT (tB (tDIn tk te)) σ H (valV kvs (Sum.inl k)).isSome := fun H1 e Q q =>
  hk H1 e _ fun H2 e2 => ho H2 (e.trans e2) _ fun H3 e3 => ⟨d, _, rfl, DGet.k (k := Sum.inl k) (e3 d _ (e2 d _ (e d _ hd))), _, rfl, q H3 (e2.trans e3)⟩
theorem et_notin {d : Addr} {kvs : List (Key × V)} {k : Int} (hd : H d = some (.dK kvs)) (hk : Ev tk σ H (.int k)) (ho : Ev te σ H (.ref d)) : EvT (tB (tDNotIn tk te)) σ H (!(valV kvs (Sum.inl k)).isSome) := fun H1 e Q q =>
  hk H1 e _ fun H2 e2 => ho H2 (e.trans e2) _ fun H3 e3 => ⟨d, _, rfl, DGet.k (k := Sum.inl k) (e3 d _ (e2 d _ (e d _ hd))), _, rfl, q H3 (e2.trans e3)⟩
theorem ev_dget {d : Addr} {kvs : List (Key × V)} {k : Int} (hd : H d = some (.dK kvs)) (ho : Ev te σ H (.ref d)) (hk : Ev tk σ H (.int k)) (hv : valV kvs (Sum.inl k) = some b) : Ev (tDGet te tk) σ H b := fun H1 e Q q =>
  ho H1 e _ fun H2 e2 => hk H2 (e.trans e2) _ fun H3 e3 => ⟨d, b, rfl, by rw [← hv]; exact DGet.k (k := Sum.inl k) (e3 d _ (e2 d _ (e d _ hd))), q H3 (e2.trans e3)⟩
/-- xs.append(v), as the last statement -/
theorem appD {l : Addr} {xs : List V} (hl : H l = some (.lst xs)) (ha : Ev ta σ H (.ref l)) (h : Ev te σ H v) (hz : xs.length < 100000) (k : ∀ H1, Ex H H1 → D.nx σ (upd H1 l (.lst (xs ++ [v])))) :
    tDrop (tBM K "list" rAppend ta (tCons te tNil)) D σ H := s_app hl ha h hz k
theorem ev_ixT {a : Addr} {xs : List V} {i : Int} (ha : Ev ta σ H (.ref a)) (hx : SqT K H a xs) (hb : Ev tb σ H (.int i)) (h : atI xs i = some v) : Ev (tOp (rIxT K) ta tb) σ H v := ev_op ha hb (rv_ixT hx h)
theorem ev_ixL {a : Addr} {xs : List V} {i : Int} (ha : Ev ta σ H (.ref a)) (hx : SqL K H a xs) (hb : Ev tb σ H (.int i)) (h : atI xs i = some v) : Ev (tOp (rIxL K) ta tb) σ H v := ev_op ha hb (rv_ixL hx h)
theorem ev_lenL {a : Addr} {xs : List V} (ha : Ev ta σ H (.ref a)) (hx : SqL K H a xs) : Ev (tCB (fun xs H Q => ∃ p ys, xs = [.ref p] ∧ (SqL K H p ys ∨ SqT K H p ys) ∧ Q (.int ys.length) H) (tCons ta tNil)) σ H (.int (xs.length : Int)) := ev_len ha hx
theorem ev_lenT {a : Addr} {xs : List V} (ha : Ev ta σ H (.ref a)) (hx : SqT K H a xs) : Ev (tCB (fun xs H Q => ∃ p ys, xs = [.ref p] ∧ (SqL K H p ys ∨ SqT K H p ys) ∧ Q (.int ys.length) H) (tCons ta tNil)) σ H (.int (xs.length : Int)) := fun H1 e Q q =>
  ha H1 e _ fun H2 e2 => ⟨a, xs, rfl, Or.inr (ex_t (e.trans e2) hx), q H2 e2⟩
theorem ev_lenD {d : Addr} {kvs : List (Key × V)} (hd : H d = some (.dK kvs)) (ha : Ev ta σ H (.ref d)) : Ev (tCB (fun xs H Q => ∃ a kvs, xs = [V.ref a] ∧ H a = some (.dK kvs) ∧ Q (.int kvs.length) H) (tCons ta tNil)) σ H (.int (kvs.length : Int)) := fun H1 e Q q =>
  ha H1 e _ fun H2 e2 => ⟨d, kvs, rfl, e2 d _ (e d _ hd), q H2 e2⟩
end
/-! ### the walk over the flags of a part, as a list -/
def vis1 (row : List Nat) (t : Nat) : List Nat := if t ∈ row then row else row ++ [t]
def visit (s : Net) (x : Nat) (row : List Nat) : List Nat := s.foldl (fun r ch => vis1 r (ch.getD x 0)) row
def bfsGo (s : Net) : Nat → List Nat → Nat → List Nat
  | 0, row, _ => row
  | k + 1, row, i => if i < row.length then bfsGo s k (visit s (row.getD i 0) row) (i + 1) else row
def bfs (s : Net) (n f : Nat) : List Nat := bfsGo s n [f] 0
theorem visit_take {s : Net} {x i : Nat} {ch row : List Nat} (h : s[i]? = some ch) : visit (s.take (i + 1)) x row = vis1 (visit (s.take i) x row) (ch.getD x 0) := by
  unfold visit
  rw [List.take_add_one, h, List.foldl_append]
  rfl
theorem vis1_nodup {row : List Nat} {t : Nat} (h : row.Nodup) : (vis1 row t).Nodup := by
  unfold vis1
  by_cases m : t ∈ row
  · rw [if_pos m]
    exact h
  · rw [if_neg m]
    exact List.nodup_append.mpr ⟨h, by simp, fun a ha b hb => by
      rw [List.mem_singleton.mp hb]
      exact fun e => m (e ▸ ha)⟩
theorem vis1_lt {n : Nat} {row : List Nat} {t : Nat} (h : ∀ x ∈ row, x < n) (ht : t < n) : ∀ x ∈ vis1 row t, x < n := by
  unfold vis1
  by_cases m : t ∈ row
  · rw [if_pos m]
    exact h
  · rw [if_neg m]
    intro x hx
    rcases List.mem_append.mp hx with hx | hx
    · exact h x hx
    · rw [List.mem_singleton.mp hx]
      exact ht
theorem nodup_le {n : Nat} {row : List Nat} (h : row.Nodup) (hl : ∀ x ∈ row, x < n) : row.length ≤ n := by
  have := List.Nodup.length_le_of_subset h (fun x hx => List.mem_range.mpr (hl x hx))
  rwa [List.length_range] at this
end Nk
/-! ## W1: met_from, _law_part -/
namespace Nk
open PySem PySem.Spec PyProof.Rows L2 Evl

def spBfs (K : PySem.W.Frag) : Sp := fun vs H Q _ => ∃ (v : V) (n : Nat) (s : Net) (x : Nat), vs = [v, nv x] ∧ Dp K H v (encNet s) ∧ Form n s ∧ x < n ∧ n ≤ 1000 ∧ RetL (nl (bfs s n x)) H Q

theorem visit_pre (s : Net) (x : Nat) : ∀ row : List Nat, ∃ t, visit s x row = row ++ t := by
  unfold visit
  induction s with
  | nil => exact fun row => ⟨[], by simp⟩
  | cons ch s ih =>
    intro row
    obtain ⟨t, ht⟩ := ih (vis1 row (ch.getD x 0))
    rw [List.foldl_cons, ht]
    unfold vis1
    by_cases m : ch.getD x 0 ∈ row
    · exact ⟨t, by rw [if_pos m]⟩
    · exact ⟨[ch.getD x 0] ++ t, by rw [if_neg m, List.append_assoc]⟩
theorem visit_get {s : Net} {x i : Nat} {row : List Nat} {z : Nat} (h : row[i]? = some z) : (visit s x row)[i]? = some z := by
  obtain ⟨t, e⟩ := visit_pre s x row
  rw [e, List.getElem?_append_left (List.getElem?_eq_some_iff.mp h).1, h]
theorem visit_nodup {x : Nat} : ∀ {s : Net} {row : List Nat}, row.Nodup → (visit s x row).Nodup
  | [], _, h => h
  | ch :: s, row, h => visit_nodup (s := s) (row := vis1 row (ch.getD x 0)) (vis1_nodup h)
theorem visit_lt {n x : Nat} : ∀ {s : Net} {row : List Nat}, (∀ ch ∈ s, ch.getD x 0 < n) → (∀ z ∈ row, z < n) → ∀ z ∈ visit s x row, z < n
  | [], _, _, h => h
  | ch :: s, row, hs, h => visit_lt (s := s) (row := vis1 row (ch.getD x 0)) (fun c hc => hs c (List.mem_cons_of_mem _ hc)) (vis1_lt h (hs ch List.mem_cons_self))
theorem Form.row {n : Nat} {s : Net} (F : Form n s) {ch : List Nat} (h : ch ∈ s) {x : Nat} (hx : x < n) : ∃ y, ch[x]? = some y ∧ ch.getD x 0 = y ∧ y < n := by
  have h2 : x < ch.length := by rw [F.len _ h]; exact hx
  exact ⟨ch[x], List.getElem?_eq_getElem h2, by simp [List.getElem?_eq_getElem h2], F.lt _ h _ (List.getElem_mem h2)⟩
theorem Form.step {n : Nat} {s : Net} (F : Form n s) {x : Nat} (hx : x < n) : ∀ ch ∈ s, ch.getD x 0 < n := fun ch h => by
  obtain ⟨y, _, e, l⟩ := F.row h hx
  rw [e]
  exact l
theorem getD_of {l : List Nat} {i z : Nat} (h : l[i]? = some z) : l.getD i 0 = z := by rw [List.getD_eq_getElem?_getD, h]; rfl
theorem bfsGo_stop {s : Net} {row : List Nat} {i : Nat} (h : ¬ i < row.length) : ∀ k, bfsGo s k row i = row
  | 0 => rfl
  | k + 1 => by
    show (if i < row.length then _ else row) = row
    rw [if_neg h]
theorem bfsGo_go {s : Net} {row : List Nat} {i k : Nat} (h : i < row.length) : bfsGo s (k + 1) row i = bfsGo s k (visit s (row.getD i 0) row) (i + 1) := if_pos h

section
variable {P : Program} {w : World} {K : PySem.W.Frag} {mg : Str → Option Value} {base : Heap}
theorem sc_met_from : FnScope ["net", "flag", "row", "met", "spot", "change", "there"] ["net", "flag"] (defScope (top 17)) := ⟨rfl, rfl, rfl, by decide +kernel, rfl, by decide +kernel, by decide +kernel⟩
theorem kn_met_from (T : Txt K mg) : Kn P w K mg base CX0 1 "met_from" ["net", "flag"] (spBfs K) := by
  obtain ⟨f, fd, F, hm⟩ := (T.df 8 (p := (17, "met_from")) rfl)
  refine kn_ok F hm sc_met_from (fun _ _ _ _ _ _ us hl => match us, hl with | [_, _], _ => rfl) (fun vs H Q E h => ?_) (fun cdv A outer s H vs Q E hr h => ?_)
  · obtain ⟨v, n, s, x, rfl, _⟩ := h
    rfl
  · obtain ⟨v, n, s, x, rfl, hN, F, hx, hn, q⟩ := h
    obtain ⟨a, xs, rfl, hT, hD⟩ := dp_ofNet hN
    refine ⟨_, (pss_cons (ps_set (i := 2) sc_met_from.nd rfl (Or.inl rfl) (pe_lst (pa_cons (pv 1) pa_nil)))
  (pss_cons (ps_set (i := 3) sc_met_from.nd rfl (Or.inl rfl) (pe_disp (pps_cons (pv 1) pe_bl pps_nil) (by rfl) (by rfl) (fun z => by cases z) (by decide)))
  (pss_cons (ps_set (i := 4) sc_met_from.nd rfl (Or.inl rfl) pe_int)
  (pss_cons (ps_while PassesOwn.never (pt_cmpR op_lt (pv 4) (pe_callB (cK_len (K := K) (by rfl)) (by rfl) T.len bt_len (pa_cons (pv 2) pa_nil)) (nomark _))
  (pss_cons (ps_for PassesOwn.never rfl (piK_tup (K := K) (by rfl) (pv 0)) (pg_name (i := 5) sc_met_from.nd rfl (by first | exact Or.inl rfl | exact Or.inr rfl))
  (pss_cons (ps_set (i := 6) sc_met_from.nd rfl (Or.inl rfl) (pe_ix (ixK_tup (K := K) (by rfl)) (pv 5) (pe_ix (ixK_list (K := K) (by rfl)) (pv 2) (pv 4) (fun _ _ => rfl)) (fun _ _ => rfl)))
  (pss_one (ps_if (pt_cmp (pc_dnotin (hu_of hr) (pv 6) (pv 3)))
  (pss_cons (ps_dput (hu_of hr) (pv 3) (pv 6) pe_bl rfl)
  (pss_one (ps_expr (pe_bmK (K := K) (by rfl) PySem.F.plainAttrs_list PySem.F.slot_list_append PySem.F.type_list_append mt_append (pv 2) (pa_cons (pv 6) pa_nil)))))
  pss_nil))))
  (pss_one (ps_set (i := 4) sc_met_from.nd rfl (Or.inl rfl) (pe_op op_add (pv 4) pe_int)))))
  (pss_one (ps_ret (pv 2))))))), ?_⟩
    -- row = [flag]; met = {flag: True}; spot = 0
    refine q_asgL (el_lst (ea_cons (ev_var rfl) ea_nil) (by show 1 ≤ 100000; omega)) fun r H1 r0 e1 h1 => ?_
    refine asgD1 (ev_var rfl) ev_c fun m H2 m0 e2 h2 => ?_
    refine q_asg ev_c fun H3 e3 => ?_
    have nrm : r ≠ m := ne_of_none h1 m0
    have rH : H r = none := r0
    have mH : H m = none := fresh_back e1 m0
    refine q_while (fun μ σ H' => ∃ (row : List Nat) (sp : Nat) (y5 y6 : Option V), σ = [some (.ref a), some (nv x), some (.ref r), some (.ref m), some (nv sp), y5, y6] ∧ Ex H H' ∧ H' r = some (.lst (nl row)) ∧ H' m = some (.dK (kd row (.bl true))) ∧
        row.Nodup ∧ (∀ z ∈ row, z < n) ∧ sp ≤ row.length ∧ bfsGo s μ row sp = bfs s n x ∧ μ + sp = n) n
      ⟨[x], 0, none, none, rfl, (e1.trans e2).trans e3, e3 _ _ (e2 _ _ h1), e3 _ _ h2, by simp, (by intro z hz; rw [List.mem_singleton.mp hz]; exact hx), Nat.zero_le _, rfl, rfl⟩ fun μ σ' H' hW => ?_
    obtain ⟨row, sp, y5, y6, rfl, e, hrow, hmet, nd, lt, hsp, hgo, hmu⟩ := hW
    refine ⟨decide ((sp : Int) < ((nl row).length : Int)), et_test (ev_op (ev_var rfl) (ev_lenL (ev_var rfl) (sq_of hrow)) rv_I0), fun hb H4 e4 => ?_, fun hb H4 e4 => ?_⟩
    · have hlt : sp < row.length := by
        have := of_decide_eq_true hb
        rw [nl_len] at this
        omega
      have hlen : row.length ≤ n := nodup_le nd lt
      obtain ⟨μ', rfl⟩ : ∃ k, μ = k + 1 := ⟨μ - 1, by omega⟩
      obtain ⟨z, hz⟩ : ∃ z, row[sp]? = some z := ⟨row[sp], List.getElem?_eq_getElem hlt⟩
      have hzn : z < n := lt z (List.mem_of_getElem? hz)
      rw [bfsGo_go hlt, getD_of hz] at hgo
      refine ⟨fun σ2 H2 => ∃ (row : List Nat) (sp : Nat) (y5 y6 : Option V), σ2 = [some (.ref a), some (nv x), some (.ref r), some (.ref m), some (nv sp), y5, y6] ∧ Ex H H2 ∧ H2 r = some (.lst (nl row)) ∧ H2 m = some (.dK (kd row (.bl true))) ∧
        row.Nodup ∧ (∀ z ∈ row, z < n) ∧ sp ≤ row.length ∧ bfsGo s μ' row sp = bfs s n x ∧ μ' + sp = n, fun σ2 H2 hN => ⟨μ', by omega, hN⟩, ?_⟩
      refine q_forT (a := a) (xs := xs) (ev_var rfl) (ex_t (e.trans e4) hT) (fun i σ2 H2 => ∃ (y5 y6 : Option V), σ2 = [some (.ref a), some (nv x), some (.ref r), some (.ref m), some (nv sp), y5, y6] ∧ Ex H H2 ∧
          H2 r = some (.lst (nl (visit (s.take i) z row))) ∧ H2 m = some (.dK (kd (visit (s.take i) z row) (.bl true)))) (fun H5 e5 => ⟨y5, y6, rfl, (e.trans e4).trans e5, e5 _ _ (e4 _ _ hrow), e5 _ _ (e4 _ _ hmet)⟩)
        (fun i σ2 H2 _ h => by obtain ⟨_, _, _, e, _⟩ := h; exact ex_t e hT) (fun i y σ2 H2 hi h => ?_) (fun σ2 H2 h => ?_)
      · obtain ⟨y5, y6, rfl, e, hrow, hmet⟩ := h
        obtain ⟨d, hd, hdp⟩ := hD.getv hi
        obtain ⟨ch, hch, rfl⟩ := List.getElem?_map .. ▸ hd |> Option.map_eq_some_iff.mp
        obtain ⟨c, rfl, hc⟩ := dp_ofR (Dp.mono hdp e)
        have hcm : ch ∈ s := List.mem_of_getElem? hch
        obtain ⟨t, ht, ht2, htn⟩ := F.row hcm hzn
        have hvz : (visit (s.take i) z row)[sp]? = some z := visit_get hz
        have hvl : (visit (s.take i) z row).length ≤ n := nodup_le (visit_nodup nd) (visit_lt (fun c hc => F.step hzn c (List.mem_of_mem_take hc)) lt)
        show tSeq _ _ _ _ _
        refine q_asg (v := nv t) (ev_ixT (ev_var rfl) hc (ev_ixL (ev_var rfl) (sq_of hrow) (ev_var rfl) (atI_n (nl_get hvz))) (atI_n (nl_get ht))) fun H3 e3 => ?_
        have hrow3 := e3 _ _ hrow
        have hmet3 := e3 _ _ hmet
        refine s_if (et_notin hmet3 (ev_var rfl) (ev_var rfl)) (fun hb H4 e4 => ?_) (fun hb H4 e4 => ?_)
        · have hnm : t ∉ visit (s.take i) z row := by
            intro hmem
            rw [valV_kd, if_pos hmem] at hb
            cases hb
          have ev : visit (s.take (i + 1)) z row = visit (s.take i) z row ++ [t] := by
            rw [visit_take hch, ht2]
            exact if_neg hnm
          refine putD (e4 _ _ hmet3) ev_c (ev_var rfl) (ev_var rfl) (by rw [kd_len]; omega) fun H5 e5 => ?_
          have hrow5 : (upd H5 m (.dK (putK (kd (visit (s.take i) z row) (.bl true)) (Sum.inl (t : Int)) (.bl true)))) r = some (.lst (nl (visit (s.take i) z row))) := by
            rw [upd_ne nrm]
            exact e5 _ _ (e4 _ _ hrow3)
          refine appD (v := nv t) hrow5 (ev_var rfl) (ev_var rfl) (by rw [nl_len]; omega) fun H6 e6 => ?_
          refine ⟨_, _, rfl, Ex.mut (((Ex.mut ((e.trans e3).trans (e4.trans e5)) mH)).trans e6) rH, ?_, ?_⟩
          · rw [upd_same, ev, nl_app]
            rfl
          · rw [upd_ne nrm.symm, e6 _ _ upd_same, putK_kd hnm, ev]
        · have hmem : t ∈ visit (s.take i) z row := by
            by_cases hmem : t ∈ visit (s.take i) z row
            · exact hmem
            · rw [valV_kd, if_neg hmem] at hb
              cases hb
          have ev : visit (s.take (i + 1)) z row = visit (s.take i) z row := by
            rw [visit_take hch, ht2]
            exact if_pos hmem
          exact ⟨_, _, rfl, (e.trans e3).trans e4, by rw [ev]; exact e4 _ _ hrow3, by rw [ev]; exact e4 _ _ hmet3⟩
      · obtain ⟨y5, y6, rfl, e, hrow, hmet⟩ := h
        have hxl : xs.length = s.length := by rw [hD.length, List.length_map]
        rw [hxl, List.take_length] at hrow hmet
        refine s_asg (v := nv (sp + 1)) (ev_op (ev_var rfl) ev_c rv_I0) fun H3 e3 => ?_
        exact ⟨visit s z row, sp + 1, y5, y6, rfl, e.trans e3, e3 _ _ hrow, e3 _ _ hmet, visit_nodup nd, visit_lt (F.step hzn) lt, by
          obtain ⟨t, et⟩ := visit_pre s z row
          rw [et, List.length_append]
          omega, hgo, by omega⟩
    · have hge : ¬ sp < row.length := by
        have := of_decide_eq_false hb
        rw [nl_len] at this
        omega
      rw [bfsGo_stop hge] at hgo
      exact s_ret (ev_var rfl) fun H5 e5 => q r H5 rH ((e.trans e4).trans e5) (e5 _ _ (by rw [← hgo]; exact e4 _ _ hrow))
end
end Nk
/-! ## K5: comprehensions, told as data; conversions; loops over data -/
namespace Nk
open PySem PySem.Spec PyProof.Rows L2 Evl

def givenD (n : Nat) (f : Nat → Bool) (D : Nat → PyData) : List PyData := ((List.range n).filter f).map D
theorem givenD_yes {n : Nat} {f : Nat → Bool} {v : Nat → PyData} (h : f n = true) : givenD (n + 1) f v = givenD n f v ++ [v n] := by
  unfold givenD
  rw [List.range_succ, List.filter_append, List.map_append, List.filter_cons, if_pos h] <;> rfl
theorem givenD_no {n : Nat} {f : Nat → Bool} {v : Nat → PyData} (h : f n = false) : givenD (n + 1) f v = givenD n f v := by
  unfold givenD
  rw [List.range_succ, List.filter_append, List.map_append, List.filter_cons, if_neg (by rw [h]; decide)]
  show _ ++ [] = _
  rw [List.append_nil]
theorem givenD_len (n : Nat) (f : Nat → Bool) (v : Nat → PyData) : (givenD n f v).length ≤ n := by
  unfold givenD
  rw [List.length_map]
  have h := List.length_filter_le f (List.range n)
  rw [List.length_range] at h
  exact h
theorem givenD_flat {n : Nat} {f : Nat → Bool} {v : Nat → PyData} (h : ∀ i, flatT (v i) = true) : flatTs (givenD n f v) = true := flatTs_of fun d hd => by
  obtain ⟨i, _, rfl⟩ := List.mem_map.mp hd
  exact h i
/-- no test: all are given -/
theorem givenD_all {α : Type} {l : List α} {F : α → PyData} {D : Nat → PyData} (h : ∀ (i : Nat) a, l[i]? = some a → D i = F a) : givenD l.length (fun _ => true) D = l.map F := by
  unfold givenD
  refine List.ext_getElem? fun i => ?_
  rw [List.getElem?_map, List.getElem?_map]
  have : (List.range l.length).filter (fun _ => true) = List.range l.length := List.filter_eq_self.mpr fun _ _ => rfl
  rw [this]
  by_cases hi : i < l.length
  · rw [List.getElem?_range hi, List.getElem?_eq_getElem hi]
    show some (D i) = some (F l[i])
    rw [h i _ (List.getElem?_eq_getElem hi)]
  · rw [List.getElem?_eq_none (by simpa using hi), List.getElem?_eq_none (by omega)]
    rfl
theorem givenD_range {n : Nat} {D : Nat → PyData} : givenD n (fun _ => true) D = (List.range n).map D := by
  unfold givenD
  congr 1
  exact List.filter_eq_self.mpr fun _ _ => rfl
section
variable {K : PySem.W.Frag} {σ : L2.St} {H H' : Hp} {ta tb te tx tl : TE} {t u : TT} {x y z v : V} {a : A} {ds : List PyData}
theorem et_yes : EvT tYes σ H true := fun H1 _ _ q => q H1 (Ex.refl H1)
def CwG (K : PySem.W.Frag) (H : Hp) (f : Nat → Bool) (D : Nat → PyData) (Dl : Addr) (i : Nat) (H' : Hp) : Prop := H Dl = none ∧ Ex H H' ∧ ∃ ys, H' Dl = some (.lst ys) ∧ DpAll K H' ys (givenD i f D)
theorem cwg_turn {f : Nat → Bool} {D : Nat → PyData} {Dl : Addr} {i : Nat} {σ2 : L2.St} (p : CwG K H f D Dl i H') (hi : i < 50000) (hfl : ∀ i, flatT (D i) = true) (ht : EvT t σ2 H (f i)) (he : f i = true → EvG K te σ2 H (.d (D i))) :
    t σ2 H' fun b H3 => if b = true then te σ2 H3 fun y H4 => ∃ acc, H4 Dl = some (.lst acc) ∧ acc.length < sizeLine ∧ CwG K H f D Dl (i + 1) (upd H4 Dl (.lst (acc ++ [y]))) else CwG K H f D Dl (i + 1) H3 := by
  obtain ⟨p1, p2, ys, p3, p4⟩ := p
  refine ht H' p2 _ fun H3 e3 => ?_
  cases hf : f i with
  | true =>
    show te σ2 H3 fun y H4 => ∃ acc, H4 Dl = some (.lst acc) ∧ acc.length < sizeLine ∧ CwG K H f D Dl (i + 1) (upd H4 Dl (.lst (acc ++ [y])))
    refine he hf H3 (p2.trans e3) _ fun y H4 e4 hy => ?_
    have q4 := e4 Dl _ (e3 Dl _ p3)
    refine ⟨ys, q4, sz_lt (by rw [p4.length]; have := givenD_len i f D; omega), p1, Ex.mut ((p2.trans e3).trans e4) p1, ys ++ [y], upd_same, ?_⟩
    rw [givenD_yes hf]
    refine DpAll.app (DpAll.tk (p4.mono (e3.trans e4)) (Tk.lst q4) (givenD_flat hfl)) (.cons (Dp.tk hy (Tk.lst q4) (hfl i)) .nil)
  | false =>
    show CwG K H f D Dl (i + 1) H3
    refine ⟨p1, p2.trans e3, ys, e3 Dl _ p3, ?_⟩
    rw [givenD_no hf]
    exact p4.mono e3
theorem cwg_done {f : Nat → Bool} {D : Nat → PyData} {Dl : Addr} {i : Nat} (p : CwG K H f D Dl i H') : Is K H' (.ref Dl) (.d (.list (givenD i f D))) := by
  obtain ⟨_, _, ys, p3, p4⟩ := p
  exact .lst (sq_of p3) p4
theorem cwg_start {f : Nat → Bool} {D : Nat → PyData} {Dl : Addr} (h : H Dl = none) : CwG K H f D Dl 0 (upd H Dl (.lst [])) := ⟨h, Ex.new h, [], upd_same, .nil⟩
/-- over a tuple, a list that is data -/
theorem g_lcT {j : Nat} {vs : List Nat} (f : Nat → Bool) (D : Nat → PyData) (h : EvG K tl σ H (.d (.tuple ds))) (hz : ds.length ≤ 40000) (hw : ∀ x, wipe ((wipe σ vs).set j (some x)) vs = wipe σ vs) (hfl : ∀ i, flatT (D i) = true)
    (ht : ∀ (i : Nat) (x : V) (d : PyData) H1, Ex H H1 → ds[i]? = some d → Dp K H1 x d → EvT t ((wipe σ vs).set j (some x)) H1 (f i))
    (he : ∀ (i : Nat) (x : V) (d : PyData) H1, Ex H H1 → ds[i]? = some d → Dp K H1 x d → f i = true → EvG K te ((wipe σ vs).set j (some x)) H1 (.d (D i))) :
    EvG K (tLc (iTup K tl) (gName j) t te vs) σ H (.d (.list (givenD ds.length f D))) := fun H0 e Q q => h H0 e _ fun w H1 e1 hw1 => by
  cases hw1 with
  | @tup p xs _ h1 h2 =>
    refine ⟨p, rfl, ⟨xs, h1⟩, fun Dl hD => ?_⟩
    rw [← h2.length] at q
    refine lc_tup (xs := xs) (CwG K H1 f D Dl) (cwg_start hD) (fun i H' _ p => ex_t p.2.1 h1) (fun i x H' hi p => ?_) (fun H' p => q _ H' (e1.trans p.2.1) (cwg_done p))
    obtain ⟨d, hd, hp⟩ := h2.getv hi
    exact ⟨hw x, cwg_turn p (by have := (List.getElem?_eq_some_iff.mp hi).1; have := h2.length; omega) hfl (ht i x d H1 (e.trans e1) hd hp) (fun hf => he i x d H1 (e.trans e1) hd hp hf)⟩
theorem g_lcL {j : Nat} {vs : List Nat} (f : Nat → Bool) (D : Nat → PyData) (h : EvG K tl σ H (.d (.list ds))) (hz : ds.length ≤ 40000) (hw : ∀ x, wipe ((wipe σ vs).set j (some x)) vs = wipe σ vs) (hfl : ∀ i, flatT (D i) = true)
    (ht : ∀ (i : Nat) (x : V) (d : PyData) H1, Ex H H1 → ds[i]? = some d → Dp K H1 x d → EvT t ((wipe σ vs).set j (some x)) H1 (f i))
    (he : ∀ (i : Nat) (x : V) (d : PyData) H1, Ex H H1 → ds[i]? = some d → Dp K H1 x d → f i = true → EvG K te ((wipe σ vs).set j (some x)) H1 (.d (D i))) :
    EvG K (tLc (iList K tl) (gName j) t te vs) σ H (.d (.list (givenD ds.length f D))) := fun H0 e Q q => h H0 e _ fun w H1 e1 hw1 => by
  cases hw1 with
  | @lst p xs _ h1 h2 =>
    refine ⟨p, rfl, ⟨xs, h1⟩, fun Dl hD => ?_⟩
    rw [← h2.length] at q
    refine lc_list (xs := xs) (CwG K H1 f D Dl) (cwg_start hD) (fun i H' _ p => ex_l p.2.1 h1) (fun i x H' hi p => ?_) (fun H' p => q _ H' (e1.trans p.2.1) (cwg_done p))
    obtain ⟨d, hd, hp⟩ := h2.getv hi
    exact ⟨hw x, cwg_turn p (by have := (List.getElem?_eq_some_iff.mp hi).1; have := h2.length; omega) hfl (ht i x d H1 (e.trans e1) hd hp) (fun hf => he i x d H1 (e.trans e1) hd hp hf)⟩
/-- any target -/
theorem g_lcLg {g : TG} {vs : List Nat} (f : Nat → Bool) (D : Nat → PyData) (h : EvG K tl σ H (.d (.list ds))) (hz : ds.length ≤ 40000) (hfl : ∀ i, flatT (D i) = true)
    (hs : ∀ (i : Nat) (x : V) (d : PyData) H1 H2, Ex H H1 → ds[i]? = some d → Dp K H1 x d → Ex H1 H2 → ∀ R : L2.St → Hp → Prop, (∀ σ2, wipe σ2 vs = wipe σ vs → EvT t σ2 H1 (f i) → (f i = true → EvG K te σ2 H1 (.d (D i))) → R σ2 H2) → g x (wipe σ vs) H2 R) :
    EvG K (tLc (iList K tl) g t te vs) σ H (.d (.list (givenD ds.length f D))) := fun H0 e Q q => h H0 e _ fun w H1 e1 hw1 => by
  cases hw1 with
  | @lst p xs _ h1 h2 =>
    refine ⟨p, rfl, ⟨xs, h1⟩, fun Dl hD => ?_⟩
    rw [← h2.length] at q
    refine lc_list (xs := xs) (CwG K H1 f D Dl) (cwg_start hD) (fun i H' _ p => ex_l p.2.1 h1) (fun i x H' hi p => ?_) (fun H' p => q _ H' (e1.trans p.2.1) (cwg_done p))
    obtain ⟨d, hd, hp⟩ := h2.getv hi
    exact hs i x d H1 H' (e.trans e1) hd hp p.2.1 _ fun σ2 hw ht he => ⟨hw, cwg_turn p (by have := (List.getElem?_eq_some_iff.mp hi).1; have := h2.length; omega) hfl ht he⟩
/-- over range(n), range(lo, hi) -/
theorem g_lcR1 {ta : TA} {j : Nat} {vs : List Nat} {n : Nat} (f : Nat → Bool) (D : Nat → PyData) (h : EvGs K ta σ H [.d (.int n)]) (hn : n ≤ 40000) (hw : ∀ x, wipe ((wipe σ vs).set j (some x)) vs = wipe σ vs) (hfl : ∀ i, flatT (D i) = true)
    (ht : ∀ (i : Nat) H1, Ex H H1 → i < n → EvT t ((wipe σ vs).set j (some (nv i))) H1 (f i)) (he : ∀ (i : Nat) H1, Ex H H1 → i < n → f i = true → EvG K te ((wipe σ vs).set j (some (nv i))) H1 (.d (D i))) :
    EvG K (tLc (iRng1 ta) (gName j) t te vs) σ H (.d (.list (givenD n f D))) := fun H0 e Q q => h H0 e _ fun ws H1 e1 hw1 => by
  match ws, hw1 with
  | [w], hw1 =>
    have hw2 := Dp.int_eq hw1.1
    subst hw2
    refine ⟨(n : Int), rfl, by omega, by omega, fun Dl hD => ?_⟩
    rw [Int.toNat_natCast]
    refine lc_range (lo := 0) (n := n) (CwG K H1 f D Dl) (cwg_start hD) (fun i H' hi p => ?_) (fun H' p => q _ H' (e1.trans p.2.1) (cwg_done p))
    have e0 : (0 : Int) + (i : Int) = (i : Int) := Int.zero_add _
    show wipe ((wipe σ vs).set j (some (.int ((0 : Int) + (i : Int))))) vs = wipe σ vs ∧ _
    rw [e0]
    exact ⟨hw _, cwg_turn p (by omega) hfl (ht i H1 (e.trans e1) hi) (fun hf => he i H1 (e.trans e1) hi hf)⟩
theorem g_lcR2 {ta : TA} {j : Nat} {vs : List Nat} {lo n : Nat} (f : Nat → Bool) (D : Nat → PyData) (h : EvGs K ta σ H [.d (.int lo), .d (.int (lo + n : Nat))]) (hn : lo ≤ 40000 ∧ n ≤ 40000) (hw : ∀ x, wipe ((wipe σ vs).set j (some x)) vs = wipe σ vs) (hfl : ∀ i, flatT (D i) = true)
    (ht : ∀ (i : Nat) H1, Ex H H1 → i < n → EvT t ((wipe σ vs).set j (some (nv (lo + i)))) H1 (f i)) (he : ∀ (i : Nat) H1, Ex H H1 → i < n → f i = true → EvG K te ((wipe σ vs).set j (some (nv (lo + i)))) H1 (.d (D i))) :
    EvG K (tLc (iRng2 ta) (gName j) t te vs) σ H (.d (.list (givenD n f D))) := fun H0 e Q q => h H0 e _ fun ws H1 e1 hw1 => by
  match ws, hw1 with
  | [w, w2], hw1 =>
    have hw2 := Dp.int_eq hw1.1
    have hw3 := Dp.int_eq hw1.2.1
    subst hw2 hw3
    refine ⟨(lo : Int), ((lo + n : Nat) : Int), rfl, ⟨by omega, by omega, by omega, by omega⟩, fun Dl hD => ?_⟩
    rw [show (((lo + n : Nat) : Int) - (lo : Int)).toNat = n from by omega]
    refine lc_range (lo := (lo : Int)) (n := n) (CwG K H1 f D Dl) (cwg_start hD) (fun i H' hi p => ?_) (fun H' p => q _ H' (e1.trans p.2.1) (cwg_done p))
    have e0 : (lo : Int) + (i : Int) = ((lo + i : Nat) : Int) := by omega
    show wipe ((wipe σ vs).set j (some (.int ((lo : Int) + (i : Int))))) vs = wipe σ vs ∧ _
    rw [e0]
    exact ⟨hw _, cwg_turn p (by omega) hfl (ht i H1 (e.trans e1) hi) (fun hf => he i H1 (e.trans e1) hi hf)⟩
/-! ### tuple(xs), list(xs), t + u, len -/
theorem g_tupOf {ta : TE} (h : EvG K ta σ H (.d (.list ds))) : EvG K (tCB (fun xs H Q => ∃ p ys, xs = [.ref p] ∧ ((SqL K H p ys ∧ ∀ l, H l = none → Q (.ref l) (upd H l (.tup ys))) ∨ (SqT K H p ys ∧ Q (.ref p) H))) (tCons ta tNil)) σ H (.d (.tuple ds)) := fun H1 e Q q =>
  h H1 e _ fun w H2 e2 hw => by
    cases hw with
    | @lst p xs _ h1 h2 => exact ⟨p, xs, rfl, Or.inl ⟨h1, fun l hl => q _ _ (e2.trans (Ex.new hl)) (.tup (st_of upd_same) (h2.mono (Ex.new hl)))⟩⟩
theorem g_tupOfT {ta : TE} (h : EvG K ta σ H (.d (.tuple ds))) : EvG K (tCB (fun xs H Q => ∃ p ys, xs = [.ref p] ∧ ((SqL K H p ys ∧ ∀ l, H l = none → Q (.ref l) (upd H l (.tup ys))) ∨ (SqT K H p ys ∧ Q (.ref p) H))) (tCons ta tNil)) σ H (.d (.tuple ds)) := fun H1 e Q q =>
  h H1 e _ fun w H2 e2 hw => by
    cases hw with
    | @tup p xs _ h1 h2 => exact ⟨p, xs, rfl, Or.inr ⟨h1, q _ _ e2 (.tup h1 h2)⟩⟩
theorem g_listOfT {ta : TE} (h : EvG K ta σ H (.d (.tuple ds))) : EvG K (tCB (fun xs H Q => ∃ p ys, xs = [.ref p] ∧ (SqL K H p ys ∨ SqT K H p ys) ∧ ∀ l, H l = none → Q (.ref l) (upd H l (.lst ys))) (tCons ta tNil)) σ H (.d (.list ds)) := fun H1 e Q q =>
  h H1 e _ fun w H2 e2 hw => by
    cases hw with
    | @tup p xs _ h1 h2 => exact ⟨p, xs, rfl, Or.inr h1, fun l hl => q _ _ (e2.trans (Ex.new hl)) (.lst (sq_of upd_same) (h2.mono (Ex.new hl)))⟩
theorem rg_catA {ds es : List PyData} (hz : ds.length + es.length ≤ 100000) : RG K (rCatA K) H (.d (.tuple ds)) (.d (.tuple es)) (.d (.tuple (ds ++ es))) := fun x y H1 e hx hy Q q => by
  cases hx with
  | @tup p xs _ h1 h2 =>
    cases hy with
    | @tup p2 ys _ h3 h4 =>
      have l1 := h2.length
      have l2 := h4.length
      refine ⟨p, p2, xs, ys, rfl, rfl, h1, h3, sz_of (by omega), fun e1 => ?_, fun _ e1 => ?_, fun _ _ a ha => ?_⟩
      · refine q _ H1 (Ex.refl H1) ?_
        cases ds with
        | nil => exact .tup h3 h4
        | cons d ds => rw [e1] at l1; cases l1
      · refine q _ H1 (Ex.refl H1) ?_
        cases es with
        | nil => rw [List.append_nil]; exact .tup h1 h2
        | cons d ds => rw [e1] at l2; cases l2
      · exact q _ _ (Ex.new ha) (.tup (st_of upd_same) ((h2.app h4).mono (Ex.new ha)))
theorem g_lenT {ta : TE} (h : EvG K ta σ H (.d (.tuple ds))) : EvG K (tCB (fun xs H Q => ∃ p ys, xs = [.ref p] ∧ (SqL K H p ys ∨ SqT K H p ys) ∧ Q (.int ys.length) H) (tCons ta tNil)) σ H (.d (.int ds.length)) := fun H1 e Q q =>
  h H1 e _ fun w H2 e2 hw => by
    cases hw with
    | @tup p xs _ h1 h2 => exact ⟨p, xs, rfl, Or.inr h1, by rw [h2.length]; exact q _ _ e2 (.int _)⟩
theorem g_lenL {ta : TE} (h : EvG K ta σ H (.d (.list ds))) : EvG K (tCB (fun xs H Q => ∃ p ys, xs = [.ref p] ∧ (SqL K H p ys ∨ SqT K H p ys) ∧ Q (.int ys.length) H) (tCons ta tNil)) σ H (.d (.int ds.length)) := fun H1 e Q q =>
  h H1 e _ fun w H2 e2 hw => by
    cases hw with
    | @lst p xs _ h1 h2 => exact ⟨p, xs, rfl, Or.inl h1, by rw [h2.length]; exact q _ _ e2 (.int _)⟩
/-! ### any, all of truth values -/
theorem g_any {ta : TE} {bs : List Bool} (h : EvG K ta σ H (.d (.list (bs.map .bool)))) : EvG K (tCB (rAny K) (tCons ta tNil)) σ H (.d (.bool (bs.any id))) := fun H1 e Q q =>
  h H1 e _ fun w H2 e2 hw => by
    cases hw with
    | @lst p xs _ h1 h2 =>
      rw [DpAll.bls h2] at h1
      exact ⟨p, bs, rfl, h1, q _ _ e2 (.bl _)⟩
theorem g_all {ta : TE} {bs : List Bool} (h : EvG K ta σ H (.d (.list (bs.map .bool)))) : EvG K (tCB (rAll K) (tCons ta tNil)) σ H (.d (.bool (bs.all id))) := fun H1 e Q q =>
  h H1 e _ fun w H2 e2 hw => by
    cases hw with
    | @lst p xs _ h1 h2 =>
      rw [DpAll.bls h2] at h1
      exact ⟨p, bs, rfl, h1, q _ _ e2 (.bl _)⟩
/-! ### items by Nat -/
theorem g_ixT {i : Nat} {d : PyData} (h : EvG K ta σ H (.d (.tuple ds))) (hi : EvG K tb σ H (.d (.int i))) (hd : ds[i]? = some d) : EvG K (tOp (rIxT K) ta tb) σ H (.d d) := g_op h hi (rg_ixT (atI_n hd))
theorem g_ixL {i : Nat} {d : PyData} (h : EvG K ta σ H (.d (.list ds))) (hi : EvG K tb σ H (.d (.int i))) (hd : ds[i]? = some d) : EvG K (tOp (rIxL K) ta tb) σ H (.d d) := g_op h hi (rg_ixLd (atI_n hd))
theorem g_dv {i : Nat} {d : PyData} (h : σ[i]? = some (some v)) (hv : Dp K H v d) : EvG K (tVar i) σ H (.d d) := g_var h hv
theorem g_vi {i : Nat} {n : Int} (h : σ[i]? = some (some (.int n))) : EvG K (tVar i) σ H (.d (.int n)) := g_var h (.int n)
theorem g_vn {i : Nat} {n : Nat} (h : σ[i]? = some (some (nv n))) : EvG K (tVar i) σ H (.d (encN n)) := g_var h (.int n)
theorem encR_get {l : List Nat} {i n : Nat} (h : l[i]? = some n) : (l.map encN)[i]? = some (encN n) := by rw [List.getElem?_map, h]; rfl
theorem encNet_get {s : Net} {i : Nat} {l : List Nat} (h : s[i]? = some l) : (s.map encR)[i]? = some (encR l) := by rw [List.getElem?_map, h]; rfl
theorem encR_of {l : List Nat} {i : Nat} {d : PyData} (h : (l.map encN)[i]? = some d) : ∃ n, l[i]? = some n ∧ d = encN n := by
  rw [List.getElem?_map] at h
  obtain ⟨n, h1, h2⟩ := Option.map_eq_some_iff.mp h
  exact ⟨n, h1, h2.symm⟩
theorem encNet_of {s : Net} {i : Nat} {d : PyData} (h : (s.map encR)[i]? = some d) : ∃ l, s[i]? = some l ∧ d = encR l := by
  rw [List.getElem?_map] at h
  obtain ⟨n, h1, h2⟩ := Option.map_eq_some_iff.mp h
  exact ⟨n, h1, h2.symm⟩
/-- d[k], all told as data -/
theorem g_dget {td ty : TE} {d : Addr} {kvs : List (Key × V)} {k : Int} {b : V} (ho : EvG K td σ H (.v (.ref d))) (hd : H d = some (.dK kvs)) (hk : EvG K ty σ H (.d (.int k))) (hv : valV kvs (Sum.inl k) = some b) : EvG K (tDGet td ty) σ H (.v b) := fun H1 e Q q =>
  ho H1 e _ fun x H2 e2 hx => hk H2 (e.trans e2) _ fun y H3 e3 hy => by
    have hx' : x = .ref d := hx
    subst hx'
    cases hy
    exact ⟨d, b, rfl, by rw [← hv]; exact DGet.k (k := Sum.inl k) (e3 d _ (e2 d _ (e d _ hd))), q _ H3 (e2.trans e3) rfl⟩
end
/-! ### loops over data, something behind -/
section
variable {K : PySem.W.Frag} {σ : L2.St} {H H' : Hp} {ta tb te tx tl : TE} {t u : TT} {D : Ends} {tu tw tz : TS} {g : TG} {ds : List PyData}
theorem q_forTd {H0 : Hp} {j : Nat} {v : V} (h : Ev tl σ H v) (e0 : Ex H0 H) (h0d : Dp K H0 v (.tuple ds)) (Pv : Nat → L2.St → Hp → Prop) (h0 : ∀ H1, Ex H H1 → Pv 0 σ H1) (hl : ∀ i σ' H', Pv i σ' H' → Ex H0 H')
    (hs : ∀ i x d σ' H', ds[i]? = some d → Dp K H' x d → Pv i σ' H' → tu { D with nx := Pv (i + 1), ct := Pv (i + 1), bk := tz D } (σ'.set j (some x)) H') (hd : ∀ σ' H', Pv ds.length σ' H' → tz D σ' H') : tSeq (tFor (iTup K tl) (gName j) tu) tz D σ H := by
  cases h0d with
  | @tup p xs _ h1 h2 =>
    rw [← h2.length] at hd
    refine q_forT h (ex_t e0 h1) Pv h0 (fun i σ' H' _ p => ex_t (hl i σ' H' p) h1) (fun i x σ' H' hi p => ?_) hd
    obtain ⟨d, hdd, hp⟩ := h2.getv hi
    exact hs i x d σ' H' hdd (hp.mono (hl i σ' H' p)) p
theorem q_forLd {H0 : Hp} {j : Nat} {v : V} (h : Ev tl σ H v) (e0 : Ex H0 H) (h0d : Dp K H0 v (.list ds)) (Pv : Nat → L2.St → Hp → Prop) (h0 : ∀ H1, Ex H H1 → Pv 0 σ H1) (hl : ∀ i σ' H', Pv i σ' H' → Ex H0 H')
    (hs : ∀ i x d σ' H', ds[i]? = some d → Dp K H' x d → Pv i σ' H' → tu { D with nx := Pv (i + 1), ct := Pv (i + 1), bk := tz D } (σ'.set j (some x)) H') (hd : ∀ σ' H', Pv ds.length σ' H' → tz D σ' H') : tSeq (tFor (iList K tl) (gName j) tu) tz D σ H := by
  cases h0d with
  | @lst p xs _ h1 h2 =>
    rw [← h2.length] at hd
    refine q_forL h (ex_l e0 h1) Pv h0 (fun i σ' H' _ p => ex_l (hl i σ' H' p) h1) (fun i x σ' H' hi p => ?_) hd
    obtain ⟨d, hdd, hp⟩ := h2.getv hi
    exact hs i x d σ' H' hdd (hp.mono (hl i σ' H' p)) p
/-- over a list, a tuple made on the spot -/
theorem q_forGd {j : Nat} (h : EvG K tl σ H (.d (.list ds))) (Pv : Hp → Nat → L2.St → Hp → Prop) (h0 : ∀ H1, Ex H H1 → Pv H1 0 σ H1) (hl : ∀ H1 i σ' H', Pv H1 i σ' H' → Ex H1 H')
    (hs : ∀ H1 i x d σ' H', Ex H H1 → ds[i]? = some d → Dp K H' x d → Pv H1 i σ' H' → tu { D with nx := Pv H1 (i + 1), ct := Pv H1 (i + 1), bk := tz D } (σ'.set j (some x)) H') (hd : ∀ H1 σ' H', Ex H H1 → Pv H1 ds.length σ' H' → tz D σ' H') : tSeq (tFor (iList K tl) (gName j) tu) tz D σ H := by
  unfold tSeq tFor iList
  refine h H (Ex.refl H) _ fun w H1 e1 hw => ?_
  cases hw with
  | @lst p xs _ h1 h2 =>
    refine ⟨p, rfl, ⟨xs, h1⟩, ?_⟩
    refine for_list (D := { D with nx := tz D }) (Pv H1) (h0 H1 e1) (fun i σ' H' _ p => ex_l (hl H1 i σ' H' p) h1) (fun i x σ' H' hi p => ?_) (fun σ' H' p => hd H1 σ' H' e1 (by rw [← h2.length]; exact p))
    obtain ⟨d, hdd, hp⟩ := h2.getv hi
    exact hs H1 i x d σ' H' e1 hdd (hp.mono (hl H1 i σ' H' p)) p
theorem q_forGt {j : Nat} (h : EvG K tl σ H (.d (.tuple ds))) (Pv : Hp → Nat → L2.St → Hp → Prop) (h0 : ∀ H1, Ex H H1 → Pv H1 0 σ H1) (hl : ∀ H1 i σ' H', Pv H1 i σ' H' → Ex H1 H')
    (hs : ∀ H1 i x d σ' H', Ex H H1 → ds[i]? = some d → Dp K H' x d → Pv H1 i σ' H' → tu { D with nx := Pv H1 (i + 1), ct := Pv H1 (i + 1), bk := tz D } (σ'.set j (some x)) H') (hd : ∀ H1 σ' H', Ex H H1 → Pv H1 ds.length σ' H' → tz D σ' H') : tSeq (tFor (iTup K tl) (gName j) tu) tz D σ H := by
  unfold tSeq tFor iTup
  refine h H (Ex.refl H) _ fun w H1 e1 hw => ?_
  cases hw with
  | @tup p xs _ h1 h2 =>
    refine ⟨p, rfl, ⟨xs, h1⟩, ?_⟩
    refine for_tup (D := { D with nx := tz D }) (Pv H1) (h0 H1 e1) (fun i σ' H' _ p => ex_t (hl H1 i σ' H' p) h1) (fun i x σ' H' hi p => ?_) (fun σ' H' p => hd H1 σ' H' e1 (by rw [← h2.length]; exact p))
    obtain ⟨d, hdd, hp⟩ := h2.getv hi
    exact hs H1 i x d σ' H' e1 hdd (hp.mono (hl H1 i σ' H' p)) p
end
end Nk
/-! ## W2: _law_part, numbered, laid_beside and their twins -/
namespace Nk
open PySem PySem.Spec PyProof.Rows L2 Evl

section
variable {K : PySem.W.Frag} {σ : L2.St} {H H' : Hp} {ta tb te tx tl tk tv : TE} {t u : TT} {D : Ends} {tu tw tz tb : TS} {v b : V}
/-- a, b = [v], {k: w} -/
theorem q_parLD {i j : Nat} {k : Int} (hv : Ev te σ H v) (hk : Ev tk σ H (.int k)) (hw : Ev tv σ H b)
    (c : ∀ r p H1, H r = none → H p = none → r ≠ p → Ex H H1 → H1 r = some (.lst [v]) → H1 p = some (.dK [((Sum.inl k : Key), b)]) → tz D ((σ.set i (some (.ref r))).set j (some (.ref p))) H1) :
    tSeq (tPar i j (tCons (tLst (tCons te tNil)) (tCons (tDisp [(tk, tv)]) tNil))) tz D σ H := by
  unfold tSeq tPar tCons
  refine (el_lst (ea_cons hv ea_nil) (by show 1 ≤ 100000; omega)) H (Ex.refl H) _ fun r H1 r0 e1 h1 => ?_
  show tDisp [(tk, tv)] σ H1 _
  intro p hp
  refine hk (upd H1 p (.dK [])) (e1.trans (Ex.new hp)) _ fun H2 e2 => ?_
  refine hw H2 ((e1.trans (Ex.new hp)).trans e2) _ fun H3 e3 => ?_
  have h3 : H3 p = some (.dK []) := e3 p _ (e2 p _ upd_same)
  have rp : r ≠ p := ne_of_none h1 hp
  refine ⟨h3, [((Sum.inl k : Key), b)], rfl, (by show 1 ≤ 15; omega), ?_⟩
  refine ⟨.ref r, .ref p, rfl, c r p _ r0 (fresh_back e1 hp) rp (Ex.mut (((e1.trans (Ex.new hp)).trans e2).trans e3) (fresh_back e1 hp)) ?_ ?_⟩
  · rw [upd_ne rp]
    exact e3 _ _ (e2 _ _ (by rw [upd_ne rp]; exact h1))
  · rw [upd_same]
    rfl
/-- a loop that gives pairs -/
theorem for_pair {J : It} {n : Nat} {G : Hp → Prop} {fx fy : Nat → Option V} (w : Walk J n G (YPair fx fy)) {i1 i2 : Nat} {tb : TS} {D : Ends} {σ : L2.St} {H : Hp} (Pv : Nat → L2.St → Hp → Prop) (h0 : Pv 0 σ H) (hG : ∀ i σ H, i ≤ n → Pv i σ H → G H)
    (hs : ∀ i x y σ H H2, i < n → fx i = some x → fy i = some y → Pv i σ H → Ex H H2 → tb { D with nx := Pv (i + 1), ct := Pv (i + 1), bk := D.nx } ((σ.set i1 (some x)).set i2 (some y)) H2) (hd : ∀ σ H, Pv n σ H → D.nx σ H) :
    ∃ W : Nat → Nat → L2.St → Hp → Prop, (∃ m, W 0 m σ H) ∧ ∀ i m σ H, W i m σ H →
      (J.stop i H ∧ D.nx σ H) ∨ (J.go i H ∧ ∃ N : L2.St → Hp → Prop, (∀ σ' H', N σ' H' → ∃ m', m' < m ∧ W (i + 1) m' σ' H') ∧ ∀ x H', J.yld i H x H' → gTup K 2 (gCons (gName i1) (gCons (gName i2) gNil)) x σ H' fun σ2 H2 => tb { D with nx := N, ct := N, bk := D.nx } σ2 H2) := by
  refine for_it w Pv h0 hG (fun i v σ H H' hi p y => ?_) hd
  obtain ⟨T, x, z, rfl, hT, rfl, hx, hz⟩ := y
  exact ⟨T, [x, z], rfl, st_of upd_same, rfl, x, [z], rfl, z, [], rfl, rfl, hs i x z σ H _ hi hx hz p (Ex.new hT)⟩
theorem q_enum {i1 i2 : Nat} {a : Addr} {xs : List V} {ta : TA} (h : EvA ta σ H [.ref a]) (hx : SqL K H a xs) (Pv : Nat → L2.St → Hp → Prop) (h0 : ∀ H1, Ex H H1 → Pv 0 σ H1) (hl : ∀ i σ' H', Pv i σ' H' → SqL K H' a xs)
    (hs : ∀ i x σ' H' H2, xs[i]? = some x → Pv i σ' H' → Ex H' H2 → tu { D with nx := Pv (i + 1), ct := Pv (i + 1), bk := tz D } ((σ'.set i1 (some (nv i))).set i2 (some x)) H2) (hd : ∀ σ' H', Pv xs.length σ' H' → tz D σ' H') :
    tSeq (tFor (iEnum K ta) (gTup K 2 (gCons (gName i1) (gCons (gName i2) gNil))) tu) tz D σ H := by
  refine h H (Ex.refl H) _ fun H1 e1 => ?_
  refine ⟨a, xs, rfl, ex_l e1 hx, ?_⟩
  refine for_pair (D := { D with nx := tz D }) walk_enum Pv (h0 H1 e1) (fun i σ' H' _ p => hl i σ' H' p) (fun i x y σ' H' H2 hi h1 h2 p e => ?_) hd
  cases h1
  exact hs i y σ' H' H2 h2 p e
end

section
variable {P : Program} {w : World} {K : PySem.W.Frag} {mg : Str → Option Value} {base : Heap}
theorem sc_law_part : FnScope ["_law_net_here", "_law_flag", "_law_row", "_law_met", "_law_n", "_law_change"] ["_law_net_here", "_law_flag"] (defScope (top 48)) := ⟨rfl, rfl, rfl, by decide +kernel, rfl, by decide +kernel, by decide +kernel⟩
theorem kn_law_part (T : Txt K mg) : Kn P w K mg base CX0 1 "_law_part" ["_law_net_here", "_law_flag"] (spBfs K) := by
  obtain ⟨f, fd, F, hm⟩ := (T.df 37 (p := (48, "_law_part")) rfl)
  refine kn_ok F hm sc_law_part (fun _ _ _ _ _ _ us hl => match us, hl with | [_, _], _ => rfl) (fun vs H Q E h => ?_) (fun cdv A outer s H vs Q E hr h => ?_)
  · obtain ⟨v, n, s, x, rfl, _⟩ := h
    rfl
  · obtain ⟨v, n, s, x, rfl, hN, F, hx, hn, q⟩ := h
    obtain ⟨a, xs, rfl, hT, hD⟩ := dp_ofNet hN
    refine ⟨_, (pss_cons (ps_par (i := 2) (j := 3) (by rfl) sc_law_part.nd rfl rfl (by decide) rfl rfl (pa_cons (pe_lst (pa_cons (pv 1) pa_nil)) (pa_cons (pe_disp (pps_cons (pv 1) pe_bl pps_nil) (by rfl) (by rfl) (fun z => by cases z) (by decide)) pa_nil)) (by rfl))
  (pss_cons (ps_for PassesOwn.never rfl (pi_range1 rfl T.range (pa_cons (pe_callB (cK_len (K := K) (by rfl)) (by rfl) T.len bt_len (pa_cons (pe_ix (ixK_tup (K := K) (by rfl)) (pv 0) pe_int (fun _ _ => rfl)) pa_nil)) pa_nil)) (pg_name (i := 4) sc_law_part.nd rfl (by first | exact Or.inl rfl | exact Or.inr rfl))
  (pss_cons (ps_if (pt_cmpR op_eq (pv 4) (pe_callB (cK_len (K := K) (by rfl)) (by rfl) T.len bt_len (pa_cons (pv 2) pa_nil)) (nomark _))
  (pss_one ps_break)
  pss_nil)
  (pss_one (ps_for PassesOwn.never rfl (piK_tup (K := K) (by rfl) (pv 0)) (pg_name (i := 5) sc_law_part.nd rfl (by first | exact Or.inl rfl | exact Or.inr rfl))
  (pss_one (ps_if (pt_cmp (pc_dnotin (hu_of hr) (pe_ix (ixK_tup (K := K) (by rfl)) (pv 5) (pe_ix (ixK_list (K := K) (by rfl)) (pv 2) (pv 4) (fun _ _ => rfl)) (fun _ _ => rfl)) (pv 3)))
  (pss_cons (ps_dput (hu_of hr) (pv 3) (pe_ix (ixK_tup (K := K) (by rfl)) (pv 5) (pe_ix (ixK_list (K := K) (by rfl)) (pv 2) (pv 4) (fun _ _ => rfl)) (fun _ _ => rfl)) pe_bl rfl)
  (pss_one (ps_expr (pe_bmK (K := K) (by rfl) PySem.F.plainAttrs_list PySem.F.slot_list_append PySem.F.type_list_append mt_append (pv 2) (pa_cons (pe_ix (ixK_tup (K := K) (by rfl)) (pv 5) (pe_ix (ixK_list (K := K) (by rfl)) (pv 2) (pv 4) (fun _ _ => rfl)) (fun _ _ => rfl)) pa_nil)))))
  pss_nil))))))
  (pss_one (ps_ret (pv 2))))), ?_⟩
    refine q_parLD (ev_var rfl) (ev_var rfl) ev_c fun r m H1 rH mH nrm e1 hr1 hm1 => ?_
    obtain ⟨s0, hs0⟩ : ∃ c, s[0]? = some c := ⟨s[0]'(by rw [F.three]; omega), List.getElem?_eq_getElem _⟩
    have hs0l : s0.length = n := F.len _ (List.mem_of_getElem? hs0)
    have hlen : Ev (tCB (fun xs H Q => ∃ p ys, xs = [.ref p] ∧ (SqL K H p ys ∨ SqT K H p ys) ∧ Q (.int ys.length) H) (tCons (tOp (rIxT K) (tVar 0) (tC (.int 0))) tNil)) [some (.ref a), some (nv x), some (.ref r), some (.ref m), none, none] H1 (.int n) := by
      refine g_ev (g_toV (g_is (g_lenT (g_ixT (i := 0) (g_var rfl (show Is K H1 (.ref a) (.d (encNet s)) from hN.mono e1)) g_int (encNet_get hs0))) ?_))
      rw [List.length_map, hs0l]
    refine q_forR1 (n := n) (ea_cons hlen ea_nil) (by omega) (fun i σ H' => ∃ (row : List Nat) (y5 y6 : Option V), σ = [some (.ref a), some (nv x), some (.ref r), some (.ref m), y5, y6] ∧ Ex H H' ∧ H' r = some (.lst (nl row)) ∧ H' m = some (.dK (kd row (.bl true))) ∧
        row.Nodup ∧ (∀ z ∈ row, z < n) ∧ i ≤ row.length ∧ bfsGo s (n - i) row i = bfs s n x)
      (fun H2 e2 => ⟨[x], none, none, rfl, e1.trans e2, e2 _ _ hr1, e2 _ _ hm1, by simp, (by intro z hz; rw [List.mem_singleton.mp hz]; exact hx), Nat.zero_le _, rfl⟩) (fun i σ' H' hi hP => ?_) (fun σ' H' hP => ?_)
    · obtain ⟨row, y5, y6, rfl, e, hrow, hmet, nd, lt, hil, hgo⟩ := hP
      refine q_when (et_test (ev_op (ev_var rfl) (ev_lenL (ev_var rfl) (sq_of hrow)) (rv_eq rfl))) (fun hb H4 e4 => ?_) (fun hb H4 e4 => ?_)
      · have he : i = row.length := by
          have h1 := of_decide_eq_true hb
          rw [nl_len] at h1
          have h2 := V.int.inj h1
          omega
        rw [bfsGo_stop (by omega)] at hgo
        exact s_ret (ev_var rfl) fun H5 e5 => q r H5 rH ((e.trans e4).trans e5) (e5 _ _ (by rw [← hgo]; exact e4 _ _ hrow))
      · have hlt : i < row.length := by
          have h1 := of_decide_eq_false hb
          rw [nl_len] at h1
          rcases Nat.lt_or_ge i row.length with h | h
          · exact h
          · exact absurd (by rw [show i = row.length by omega]) h1
        have hlen : row.length ≤ n := nodup_le nd lt
        obtain ⟨z, hz⟩ : ∃ z, row[i]? = some z := ⟨row[i], List.getElem?_eq_getElem hlt⟩
        have hzn : z < n := lt z (List.mem_of_getElem? hz)
        rw [show n - i = (n - (i + 1)) + 1 by omega, bfsGo_go hlt, getD_of hz] at hgo
        refine s_forT (a := a) (xs := xs) (ev_var rfl) (ex_t (e.trans e4) hT) (fun k σ2 H2 => ∃ (y6 : Option V), σ2 = [some (.ref a), some (nv x), some (.ref r), some (.ref m), some (nv i), y6] ∧ Ex H H2 ∧
            H2 r = some (.lst (nl (visit (s.take k) z row))) ∧ H2 m = some (.dK (kd (visit (s.take k) z row) (.bl true)))) (fun H5 e5 => ⟨y6, rfl, (e.trans e4).trans e5, e5 _ _ (e4 _ _ hrow), e5 _ _ (e4 _ _ hmet)⟩)
          (fun i σ2 H2 _ h => by obtain ⟨_, _, e, _⟩ := h; exact ex_t e hT) (fun k y σ2 H2 hi h => ?_) (fun σ2 H2 h => ?_)
        · obtain ⟨y6, rfl, e, hrow, hmet⟩ := h
          obtain ⟨d, hd, hdp⟩ := hD.getv hi
          obtain ⟨ch, hch, rfl⟩ := encNet_of hd
          obtain ⟨c, rfl, hc⟩ := dp_ofR (Dp.mono hdp e)
          have hcm : ch ∈ s := List.mem_of_getElem? hch
          obtain ⟨t, ht, ht2, htn⟩ := F.row hcm hzn
          have hvz : (visit (s.take k) z row)[i]? = some z := visit_get hz
          have hvl : (visit (s.take k) z row).length ≤ n := nodup_le (visit_nodup nd) (visit_lt (fun c hc => F.step hzn c (List.mem_of_mem_take hc)) lt)
          have hix : ∀ {H3 : Hp}, Ex H2 H3 → H3 r = some (.lst (nl (visit (s.take k) z row))) → Ev (tOp (rIxT K) (tVar 5) (tOp (rIxL K) (tVar 2) (tVar 4))) [some (.ref a), some (nv x), some (.ref r), some (.ref m), some (nv i), some (.ref c)] H3 (nv t) := fun e3 h3 =>
            ev_ixT (ev_var rfl) (ex_t e3 hc) (ev_ixL (ev_var rfl) (sq_of h3) (ev_var rfl) (atI_n (nl_get hvz))) (atI_n (nl_get ht))
          refine s_if (et_notin hmet (hix (Ex.refl _) hrow) (ev_var rfl)) (fun hb H4 e4 => ?_) (fun hb H4 e4 => ?_)
          · have hnm : t ∉ visit (s.take k) z row := by
              intro hmem
              rw [valV_kd, if_pos hmem] at hb
              cases hb
            have ev : visit (s.take (k + 1)) z row = visit (s.take k) z row ++ [t] := by
              rw [visit_take hch, ht2]
              exact if_neg hnm
            have hrow4 := e4 _ _ hrow
            refine putD (e4 _ _ hmet) ev_c (ev_var rfl) (hix e4 hrow4) (by rw [kd_len]; omega) fun H5 e5 => ?_
            have hrow5 : (upd H5 m (.dK (putK (kd (visit (s.take k) z row) (.bl true)) (Sum.inl (t : Int)) (.bl true)))) r = some (.lst (nl (visit (s.take k) z row))) := by
              rw [upd_ne nrm]
              exact e5 _ _ hrow4
            refine appD (v := nv t) hrow5 (ev_var rfl) ?_ (by rw [nl_len]; omega) fun H6 e6 => ?_
            · refine ev_ixT (a := c) (xs := nl ch) (ev_var rfl) ?_ (ev_ixL (ev_var rfl) (sq_of hrow5) (ev_var rfl) (atI_n (nl_get hvz))) (atI_n (nl_get ht))
              exact (Tk.dic (e5 _ _ (e4 _ _ hmet))).t (ex_t (e4.trans e5) hc)
            refine ⟨_, rfl, Ex.mut (((Ex.mut (e.trans (e4.trans e5)) mH)).trans e6) rH, ?_, ?_⟩
            · rw [upd_same, ev, nl_app]
              rfl
            · rw [upd_ne nrm.symm, e6 _ _ upd_same, putK_kd hnm, ev]
          · have hmem : t ∈ visit (s.take k) z row := by
              by_cases hmem : t ∈ visit (s.take k) z row
              · exact hmem
              · rw [valV_kd, if_neg hmem] at hb
                cases hb
            have ev : visit (s.take (k + 1)) z row = visit (s.take k) z row := by
              rw [visit_take hch, ht2]
              exact if_pos hmem
            exact ⟨_, rfl, e.trans e4, by rw [ev]; exact e4 _ _ hrow, by rw [ev]; exact e4 _ _ hmet⟩
        · obtain ⟨y6, rfl, e, hrow, hmet⟩ := h
          have hxl : xs.length = s.length := by rw [hD.length, List.length_map]
          rw [hxl, List.take_length] at hrow hmet
          exact ⟨visit s z row, some (nv i), y6, rfl, e, hrow, hmet, visit_nodup nd, visit_lt (F.step hzn) lt, by
            obtain ⟨t, et⟩ := visit_pre s z row
            rw [et, List.length_append]
            omega, hgo⟩
    · obtain ⟨row, y5, y6, rfl, e, hrow, hmet, nd, lt, hil, hgo⟩ := hP
      rw [Int.toNat_natCast, Nat.sub_self] at hgo
      have hgo : row = bfs s n x := hgo
      exact s_ret (ev_var rfl) fun H5 e5 => q r H5 rH (e.trans e5) (e5 _ _ (by rw [← hgo]; exact hrow))
end
/-! ### numbered -/
def renum (s : Net) (row : List Nat) : Net := s.map fun ch => row.map fun f => row.idxOf (ch.getD f 0)
theorem lk_zip (t : Nat) : ∀ (row : List Nat) (k : Nat), lk (row.zipIdx k) t = if t ∈ row then some (k + row.idxOf t) else none
  | [], _ => rfl
  | x :: row, k => by
    unfold lk
    rw [List.zipIdx_cons]
    by_cases h : x = t
    · subst h
      rw [List.find?_cons_of_pos (by simp), if_pos List.mem_cons_self, List.idxOf_cons_self]
      rfl
    · have ih := lk_zip t row (k + 1)
      unfold lk at ih
      rw [List.find?_cons_of_neg (by simpa using h), ih, show List.idxOf t (x :: row) = List.idxOf t row + 1 from by rw [List.idxOf_cons, show (x == t) = false from by simpa using h]; rfl]
      by_cases h2 : t ∈ row
      · rw [if_pos h2, if_pos (List.mem_cons_of_mem _ h2)]
        congr 1
        omega
      · rw [if_neg h2, if_neg (fun z => (List.mem_cons.mp z).elim (fun e => h e.symm) h2)]
def spNum (K : PySem.W.Frag) : Sp := fun vs H Q _ => ∃ (v u : V) (n : Nat) (s : Net) (row : List Nat), vs = [v, u] ∧ Dp K H v (encNet s) ∧ Dp K H u (encL row) ∧ Form n s ∧ n ≤ 1000 ∧ row.Nodup ∧ (∀ z ∈ row, z < n) ∧ (∀ z ∈ row, ∀ ch ∈ s, ch.getD z 0 ∈ row) ∧
  RetA K (.d (encNet (renum s row))) H Q
section
variable {P : Program} {w : World} {K : PySem.W.Frag} {mg : Str → Option Value} {base : Heap}
theorem sc_numbered : FnScope ["net", "row", "places", "place", "flag", "change"] ["net", "row"] (defScope (top 18)) := ⟨rfl, rfl, rfl, by decide +kernel, rfl, by decide +kernel, by decide +kernel⟩
theorem kn_numbered (T : Txt K mg) : Kn P w K mg base CX0 1 "numbered" ["net", "row"] (spNum K) := by
  obtain ⟨f, fd, F, hm⟩ := (T.df 9 (p := (18, "numbered")) rfl)
  refine kn_ok F hm sc_numbered (fun _ _ _ _ _ _ us hl => match us, hl with | [_, _], _ => rfl) (fun vs H Q E h => ?_) (fun cdv A outer s H vs Q E hr h => ?_)
  · obtain ⟨v, u, n, s, row, rfl, _⟩ := h
    rfl
  · obtain ⟨v, u, n, s, row, rfl, hN, hR, F, hn, nd, lt, cl, q⟩ := h
    obtain ⟨r, rfl, hrow⟩ := dp_ofL hR
    have hll : row.length ≤ n := nodup_le nd lt
    refine ⟨_, (pss_cons (ps_set (i := 2) sc_numbered.nd rfl (Or.inr rfl) pe_dnewK)
  (pss_cons (ps_for PassesOwn.never rfl (piK_enum (K := K) (by rfl) (by rfl) T.enumerate (pa_cons (pv 1) pa_nil)) (pg_tup rfl (pgs_cons (pg_name (i := 3) sc_numbered.nd rfl (by first | exact Or.inl rfl | exact Or.inr rfl)) (pgs_cons (pg_name (i := 4) sc_numbered.nd rfl (by first | exact Or.inl rfl | exact Or.inr rfl)) pgs_nil)))
  (pss_one (ps_dput (hu_of hr) (pv 2) (pv 4) (pv 3) rfl)))
  (pss_one (ps_ret (pe_callTy (cK_tuple (K := K) (by rfl)) (by rfl) T.tuple bt_tuple (pa_cons (pe_lc (own := [("change", 5)]) (g := (gName 5)) (by rfl) sc_numbered.nd (piK_tup (K := K) (by rfl) (pv 0)) (blkOk_by (by kernel_rfl)) (fun _ _ _ _ _ => (pg_name (i := 5) sc_numbered.nd rfl (by first | exact Or.inl rfl | exact Or.inr rfl))) (fun _ _ _ _ _ => pts_nil) (fun _ _ _ _ _ => (pe_callTy (cK_tuple (K := K) (by rfl)) (by rfl) T.tuple bt_tuple (pa_cons (pe_lc (own := [("flag", 4)]) (g := (gName 4)) (by rfl) sc_numbered.nd (piK_list (K := K) (by rfl) (pv 1)) (blkOk_by (by kernel_rfl)) (fun _ _ _ _ _ => (pg_name (i := 4) sc_numbered.nd rfl (by first | exact Or.inl rfl | exact Or.inr rfl))) (fun _ _ _ _ _ => pts_nil) (fun _ _ _ _ _ => (pe_dget (hu_of hr) (pv 2) (pe_ix (ixK_tup (K := K) (by rfl)) (pv 5) (pv 4) (fun _ _ => rfl)) (fun _ _ => rfl)))) pa_nil)))) pa_nil)))))), ?_⟩
    refine asgD0 fun m m0 => ?_
    refine q_enum (K := K) (a := r) (xs := nl row) (ea_cons (ev_var rfl) ea_nil) (ex_l (Ex.new m0) hrow)
      (fun i σ H' => ∃ (y3 y4 : Option V), σ = [some v, some (.ref r), some (.ref m), y3, y4, none] ∧ Ex H H' ∧ H' m = some (.dK (kp ((row.take i).zipIdx))))
      (fun H1 e1 => ⟨none, none, rfl, (Ex.new m0).trans e1, e1 _ _ upd_same⟩) (fun i σ H' hP => let ⟨_, _, _, e, _⟩ := hP; ex_l e hrow) (fun i x σ H' H2 hi hP e2 => ?_) (fun σ H' hP => ?_)
    · obtain ⟨y3, y4, rfl, e, hm'⟩ := hP
      unfold nl at hi
      rw [List.getElem?_map] at hi
      obtain ⟨z, hz, rfl⟩ := Option.map_eq_some_iff.mp hi
      have hil : i < row.length := (List.getElem?_eq_some_iff.mp hz).1
      have hnm : lk ((row.take i).zipIdx) z = none := by
        rw [lk_zip, if_neg]
        intro hmem
        obtain ⟨j, hj, he⟩ := List.mem_iff_getElem.mp hmem
        rw [List.length_take] at hj
        have h1 : row[j]? = some z := by
          rw [← he, List.getElem_take, List.getElem?_eq_getElem]
        have := (List.getElem?_inj hil nd).mp (hz.trans h1.symm)
        omega
      refine putD1 (e2 _ _ hm') (ev_var rfl) (ev_var rfl) (ev_var rfl) (by rw [kp_len, List.length_zipIdx, List.length_take]; omega) fun H5 e5 => ?_
      refine ⟨_, _, rfl, Ex.mut ((e.trans e2).trans e5) m0, ?_⟩
      rw [upd_same, putK_kp hnm, List.take_add_one, hz]
      congr 3
      rw [List.zipIdx_append]
      simp [List.length_take, Nat.min_eq_left (Nat.le_of_lt hil)]
    · obtain ⟨y3, y4, rfl, e, hm'⟩ := hP
      rw [nl_len, List.take_length] at hm'
      refine retA (K := K) (a := .d (encNet (renum s row))) (g_is (g_tupOf (g_lcT (ds := s.map encR) (fun _ => true) (fun i => encR (row.map fun f => row.idxOf ((s.getD i []).getD f 0)))
        (g_var rfl (show Is K H' v (.d (encNet s)) from hN.mono e)) (by rw [List.length_map, F.three]; omega) (fun _ => rfl) (fun _ => flat_R _) (fun i x d H1 e1 hd hx => et_yes) (fun i x d H1 e1 hd hx _ => ?_))) ?_) (fun v H5 e5 hv => q v H5 (e.trans e5) hv) rfl
      · obtain ⟨ch, hch, rfl⟩ := encNet_of hd
        have hcm : ch ∈ s := List.mem_of_getElem? hch
        have hg : s.getD i [] = ch := by rw [List.getD_eq_getElem?_getD, hch]; rfl
        rw [hg]
        refine g_is (g_tupOf (g_lcL (ds := row.map encN) (fun _ => true) (fun k => encN (row.idxOf (ch.getD (row.getD k 0) 0))) (g_var rfl (show Is K H1 (.ref r) (.d (encL row)) from hR.mono (e.trans e1))) (by rw [List.length_map]; omega) (fun _ => rfl) (fun _ => rfl) (fun i x d H1 e1 hd hx => et_yes)
          (fun k y d H2 e2 hd hy _ => ?_))) ?_
        · obtain ⟨z, hz, rfl⟩ := encR_of hd
          cases Dp.int_eq hy
          have hzm : z ∈ row := List.mem_of_getElem? hz
          obtain ⟨t, ht, ht2, htn⟩ := F.row hcm (lt z hzm)
          rw [getD_of hz, ht2]
          have htm : t ∈ row := ht2 ▸ cl z hzm ch hcm
          refine g_toD (g_dget (g_var rfl rfl) (e2 _ _ (e1 _ _ hm')) (g_ixT (g_var rfl (show Is K H2 x (.d (encR ch)) from hx.mono e2)) (g_vn rfl) (encR_get ht)) (b := nv (row.idxOf t)) ?_)
          rw [valV_kp, lk_zip, if_pos htm]
          show some (nv (0 + row.idxOf t)) = _
          rw [Nat.zero_add]
        · unfold encR
          rw [List.length_map, List.map_map]
          congr 2
          exact givenD_all fun k z hz => by
            show encN (row.idxOf (ch.getD (row.getD k 0) 0)) = _
            rw [getD_of hz]
            rfl
      · unfold encNet renum
        rw [List.length_map, List.map_map]
        congr 2
        exact givenD_all fun i ch hch => by
          show encR (row.map fun f => row.idxOf ((s.getD i []).getD f 0)) = _
          rw [show s.getD i [] = ch by rw [List.getD_eq_getElem?_getD, hch]; rfl]
          rfl
theorem sc_law_numbered : FnScope ["_law_net_here", "_law_order_here", "_law_spots", "_law_n", "_law_flag", "_law_change"] ["_law_net_here", "_law_order_here"] (defScope (top 45)) := ⟨rfl, rfl, rfl, by decide +kernel, rfl, by decide +kernel, by decide +kernel⟩
theorem kn_law_numbered (T : Txt K mg) : Kn P w K mg base CX0 1 "_law_numbered" ["_law_net_here", "_law_order_here"] (spNum K) := by
  obtain ⟨f, fd, F, hm⟩ := (T.df 34 (p := (45, "_law_numbered")) rfl)
  refine kn_ok F hm sc_law_numbered (fun _ _ _ _ _ _ us hl => match us, hl with | [_, _], _ => rfl) (fun vs H Q E h => ?_) (fun cdv A outer s H vs Q E hr h => ?_)
  · obtain ⟨v, u, n, s, row, rfl, _⟩ := h
    rfl
  · obtain ⟨v, u, n, s, row, rfl, hN, hR, F, hn, nd, lt, cl, q⟩ := h
    obtain ⟨r, rfl, hrow⟩ := dp_ofL hR
    have hll : row.length ≤ n := nodup_le nd lt
    refine ⟨_, (pss_cons (ps_set (i := 2) sc_law_numbered.nd rfl (Or.inr rfl) pe_dnewK)
  (pss_cons (ps_for PassesOwn.never rfl (piK_enum (K := K) (by rfl) (by rfl) T.enumerate (pa_cons (pv 1) pa_nil)) (pg_tup rfl (pgs_cons (pg_name (i := 3) sc_law_numbered.nd rfl (by first | exact Or.inl rfl | exact Or.inr rfl)) (pgs_cons (pg_name (i := 4) sc_law_numbered.nd rfl (by first | exact Or.inl rfl | exact Or.inr rfl)) pgs_nil)))
  (pss_one (ps_dput (hu_of hr) (pv 2) (pv 4) (pv 3) rfl)))
  (pss_one (ps_ret (pe_callTy (cK_tuple (K := K) (by rfl)) (by rfl) T.tuple bt_tuple (pa_cons (pe_lc (own := [("_law_change", 5)]) (g := (gName 5)) (by rfl) sc_law_numbered.nd (piK_tup (K := K) (by rfl) (pv 0)) (blkOk_by (by kernel_rfl)) (fun _ _ _ _ _ => (pg_name (i := 5) sc_law_numbered.nd rfl (by first | exact Or.inl rfl | exact Or.inr rfl))) (fun _ _ _ _ _ => pts_nil) (fun _ _ _ _ _ => (pe_callTy (cK_tuple (K := K) (by rfl)) (by rfl) T.tuple bt_tuple (pa_cons (pe_lc (own := [("_law_flag", 4)]) (g := (gName 4)) (by rfl) sc_law_numbered.nd (piK_list (K := K) (by rfl) (pv 1)) (blkOk_by (by kernel_rfl)) (fun _ _ _ _ _ => (pg_name (i := 4) sc_law_numbered.nd rfl (by first | exact Or.inl rfl | exact Or.inr rfl))) (fun _ _ _ _ _ => pts_nil) (fun _ _ _ _ _ => (pe_dget (hu_of hr) (pv 2) (pe_ix (ixK_tup (K := K) (by rfl)) (pv 5) (pv 4) (fun _ _ => rfl)) (fun _ _ => rfl)))) pa_nil)))) pa_nil)))))), ?_⟩
    refine asgD0 fun m m0 => ?_
    refine q_enum (K := K) (a := r) (xs := nl row) (ea_cons (ev_var rfl) ea_nil) (ex_l (Ex.new m0) hrow)
      (fun i σ H' => ∃ (y3 y4 : Option V), σ = [some v, some (.ref r), some (.ref m), y3, y4, none] ∧ Ex H H' ∧ H' m = some (.dK (kp ((row.take i).zipIdx))))
      (fun H1 e1 => ⟨none, none, rfl, (Ex.new m0).trans e1, e1 _ _ upd_same⟩) (fun i σ H' hP => let ⟨_, _, _, e, _⟩ := hP; ex_l e hrow) (fun i x σ H' H2 hi hP e2 => ?_) (fun σ H' hP => ?_)
    · obtain ⟨y3, y4, rfl, e, hm'⟩ := hP
      unfold nl at hi
      rw [List.getElem?_map] at hi
      obtain ⟨z, hz, rfl⟩ := Option.map_eq_some_iff.mp hi
      have hil : i < row.length := (List.getElem?_eq_some_iff.mp hz).1
      have hnm : lk ((row.take i).zipIdx) z = none := by
        rw [lk_zip, if_neg]
        intro hmem
        obtain ⟨j, hj, he⟩ := List.mem_iff_getElem.mp hmem
        rw [List.length_take] at hj
        have h1 : row[j]? = some z := by
          rw [← he, List.getElem_take, List.getElem?_eq_getElem]
        have := (List.getElem?_inj hil nd).mp (hz.trans h1.symm)
        omega
      refine putD1 (e2 _ _ hm') (ev_var rfl) (ev_var rfl) (ev_var rfl) (by rw [kp_len, List.length_zipIdx, List.length_take]; omega) fun H5 e5 => ?_
      refine ⟨_, _, rfl, Ex.mut ((e.trans e2).trans e5) m0, ?_⟩
      rw [upd_same, putK_kp hnm, List.take_add_one, hz]
      congr 3
      rw [List.zipIdx_append]
      simp [List.length_take, Nat.min_eq_left (Nat.le_of_lt hil)]
    · obtain ⟨y3, y4, rfl, e, hm'⟩ := hP
      rw [nl_len, List.take_length] at hm'
      refine retA (K := K) (a := .d (encNet (renum s row))) (g_is (g_tupOf (g_lcT (ds := s.map encR) (fun _ => true) (fun i => encR (row.map fun f => row.idxOf ((s.getD i []).getD f 0)))
        (g_var rfl (show Is K H' v (.d (encNet s)) from hN.mono e)) (by rw [List.length_map, F.three]; omega) (fun _ => rfl) (fun _ => flat_R _) (fun i x d H1 e1 hd hx => et_yes) (fun i x d H1 e1 hd hx _ => ?_))) ?_) (fun v H5 e5 hv => q v H5 (e.trans e5) hv) rfl
      · obtain ⟨ch, hch, rfl⟩ := encNet_of hd
        have hcm : ch ∈ s := List.mem_of_getElem? hch
        have hg : s.getD i [] = ch := by rw [List.getD_eq_getElem?_getD, hch]; rfl
        rw [hg]
        refine g_is (g_tupOf (g_lcL (ds := row.map encN) (fun _ => true) (fun k => encN (row.idxOf (ch.getD (row.getD k 0) 0))) (g_var rfl (show Is K H1 (.ref r) (.d (encL row)) from hR.mono (e.trans e1))) (by rw [List.length_map]; omega) (fun _ => rfl) (fun _ => rfl) (fun i x d H1 e1 hd hx => et_yes)
          (fun k y d H2 e2 hd hy _ => ?_))) ?_
        · obtain ⟨z, hz, rfl⟩ := encR_of hd
          cases Dp.int_eq hy
          have hzm : z ∈ row := List.mem_of_getElem? hz
          obtain ⟨t, ht, ht2, htn⟩ := F.row hcm (lt z hzm)
          rw [getD_of hz, ht2]
          have htm : t ∈ row := ht2 ▸ cl z hzm ch hcm
          refine g_toD (g_dget (g_var rfl rfl) (e2 _ _ (e1 _ _ hm')) (g_ixT (g_var rfl (show Is K H2 x (.d (encR ch)) from hx.mono e2)) (g_vn rfl) (encR_get ht)) (b := nv (row.idxOf t)) ?_)
          rw [valV_kp, lk_zip, if_pos htm]
          show some (nv (0 + row.idxOf t)) = _
          rw [Nat.zero_add]
        · unfold encR
          rw [List.length_map, List.map_map]
          congr 2
          exact givenD_all fun k z hz => by
            show encN (row.idxOf (ch.getD (row.getD k 0) 0)) = _
            rw [getD_of hz]
            rfl
      · unfold encNet renum
        rw [List.length_map, List.map_map]
        congr 2
        exact givenD_all fun i ch hch => by
          show encR (row.map fun f => row.idxOf ((s.getD i []).getD f 0)) = _
          rw [show s.getD i [] = ch by rw [List.getD_eq_getElem?_getD, hch]; rfl]
          rfl
end
/-! ### laid_beside -/
def laid (n : Nat) (s t : Net) : Net := (List.range 3).map fun c => s.getD c [] ++ (t.getD c []).map (· + n)
def spLaid (K : PySem.W.Frag) : Sp := fun vs H Q _ => ∃ (v u : V) (n m : Nat) (s t : Net), vs = [v, u] ∧ Dp K H v (encNet s) ∧ Dp K H u (encNet t) ∧ Form n s ∧ Form m t ∧ n ≤ 1000 ∧ m ≤ 1000 ∧ 0 < n ∧ RetA K (.d (encNet (laid n s t))) H Q
section
variable {P : Program} {w : World} {K : PySem.W.Frag} {mg : Str → Option Value} {base : Heap}
theorem g_len0 {σ : L2.St} {H : Hp} {te : TE} {n : Nat} {s : Net} (F : Form n s) (h : EvG K te σ H (.d (encNet s))) :
    EvG K (tCB (fun xs H Q => ∃ p ys, xs = [.ref p] ∧ (SqL K H p ys ∨ SqT K H p ys) ∧ Q (.int ys.length) H) (tCons (tOp (rIxT K) te (tC (.int 0))) tNil)) σ H (.d (.int n)) := by
  obtain ⟨s0, hs0⟩ : ∃ c, s[0]? = some c := ⟨s[0]'(by rw [F.three]; omega), List.getElem?_eq_getElem _⟩
  have hs0l : s0.length = n := F.len _ (List.mem_of_getElem? hs0)
  refine g_is (g_lenT (g_ixT (i := 0) h g_int (encNet_get hs0))) ?_
  rw [List.length_map, hs0l]
theorem Form.get {n : Nat} {s : Net} (F : Form n s) {c : Nat} (hc : c < 3) : ∃ ch, s[c]? = some ch ∧ s.getD c [] = ch ∧ ch.length = n ∧ ch ∈ s := by
  have h : c < s.length := by rw [F.three]; exact hc
  have e : s[c]? = some s[c] := List.getElem?_eq_getElem h
  exact ⟨s[c], e, by rw [List.getD_eq_getElem?_getD, e]; rfl, F.len _ (List.mem_of_getElem? e), List.mem_of_getElem? e⟩
theorem sc_laid_beside : FnScope ["net", "other_net", "many", "change", "flag"] ["net", "other_net"] (defScope (top 22)) := ⟨rfl, rfl, rfl, by decide +kernel, rfl, by decide +kernel, by decide +kernel⟩
theorem kn_laid_beside (T : Txt K mg) : Kn P w K mg base CX0 1 "laid_beside" ["net", "other_net"] (spLaid K) := by
  obtain ⟨f, fd, F, hm⟩ := (T.df 13 (p := (22, "laid_beside")) rfl)
  refine kn_ok F hm sc_laid_beside (fun _ _ _ _ _ _ us hl => match us, hl with | [_, _], _ => rfl) (fun vs H Q E h => ?_) (fun cdv A outer s H vs Q E hr h => ?_)
  · obtain ⟨v, u, n, m, s, t, rfl, _⟩ := h
    rfl
  · obtain ⟨v, u, n, m, s, t, rfl, hN, hM, F, F2, hn, hm, hn0, q⟩ := h
    refine ⟨_, (pss_cons (ps_set (i := 2) sc_laid_beside.nd rfl (Or.inr rfl) (pe_callB (cK_len (K := K) (by rfl)) (by rfl) T.len bt_len (pa_cons (pe_ix (ixK_tup (K := K) (by rfl)) (pv 0) pe_int (fun _ _ => rfl)) pa_nil)))
  (pss_one (ps_ret (pe_callTy (cK_tuple (K := K) (by rfl)) (by rfl) T.tuple bt_tuple (pa_cons (pe_lc (own := [("change", 3)]) (g := (gName 3)) (by rfl) sc_laid_beside.nd (pi_range1 rfl T.range (pa_cons pe_int pa_nil)) (blkOk_by (by kernel_rfl)) (fun _ _ _ _ _ => (pg_name (i := 3) sc_laid_beside.nd rfl (by first | exact Or.inl rfl | exact Or.inr rfl))) (fun _ _ _ _ _ => pts_nil) (fun _ _ _ _ _ => (pe_op (opK_cat (K := K) (by rfl)) (pe_ix (ixK_tup (K := K) (by rfl)) (pv 0) (pv 3) (fun _ _ => rfl)) (pe_callTy (cK_tuple (K := K) (by rfl)) (by rfl) T.tuple bt_tuple (pa_cons (pe_lc (own := [("flag", 4)]) (g := (gName 4)) (by rfl) sc_laid_beside.nd (piK_tup (K := K) (by rfl) (pe_ix (ixK_tup (K := K) (by rfl)) (pv 1) (pv 3) (fun _ _ => rfl))) (blkOk_by (by kernel_rfl)) (fun _ _ _ _ _ => (pg_name (i := 4) sc_laid_beside.nd rfl (by first | exact Or.inl rfl | exact Or.inr rfl))) (fun _ _ _ _ _ => pts_nil) (fun _ _ _ _ _ => (pe_op op_add (pv 4) (pv 2)))) pa_nil))))) pa_nil))))), ?_⟩
    refine asgI (n := n) (g_len0 F (g_var rfl hN)) fun H1 e1 => ?_
    refine retA (K := K) (a := .d (encNet (laid n s t))) (g_is (g_tupOf (g_lcR1 (n := 3) (fun _ => true) (fun c => encR (s.getD c [] ++ (t.getD c []).map (· + n))) (gs_cons g_int gs_nil) (by omega) (fun _ => rfl) (fun _ => flat_R _) (fun i H2 e2 hi => et_yes) (fun c H2 e2 hc _ => ?_))) ?_)
      (fun v H5 e5 hv => q v H5 (e1.trans e5) hv) rfl
    · obtain ⟨ch, hch, hg, hl, _⟩ := F.get hc
      obtain ⟨ch2, hch2, hg2, hl2, _⟩ := F2.get hc
      rw [hg, hg2]
      refine g_is (g_op (a := .d (encR ch)) (b := .d (encR (ch2.map (· + n)))) (g_ixT (i := c) (g_var rfl (show Is K H2 v (.d (encNet s)) from hN.mono (e1.trans e2))) (g_vn rfl) (encNet_get hch)) (g_is (g_tupOf (g_lcT (ds := ch2.map encN) (fun _ => true) (fun k => encN (ch2.getD k 0 + n))
        (g_ixT (i := c) (g_var rfl (show Is K H2 u (.d (encNet t)) from hM.mono (e1.trans e2))) (g_vn rfl) (encNet_get hch2)) (by rw [List.length_map]; omega) (fun _ => rfl) (fun _ => rfl) (fun i x d H1 e1 hd hx => et_yes) (fun k y d H3 e3 hd hy _ => ?_))) ?_) (rg_catA (by rw [List.length_map, List.length_map, List.length_map]; omega))) ?_
      · obtain ⟨z, hz, rfl⟩ := encR_of hd
        cases Dp.int_eq hy
        rw [getD_of hz]
        exact g_op (g_vn (n := z) rfl) (g_vi rfl) rg_add
      · unfold encR
        rw [List.length_map, List.map_map]
        congr 2
        exact givenD_all fun k z hz => by
          show encN (ch2.getD k 0 + n) = _
          rw [getD_of hz]
          rfl
      · unfold encR
        rw [List.map_append]
    · unfold encNet laid
      rw [givenD_range, List.map_map]
      rfl
theorem sc_law_laid : FnScope ["_law_net_here", "_law_other", "_law_many", "_law_n", "_law_flag"] ["_law_net_here", "_law_other"] (defScope (top 52)) := ⟨rfl, rfl, rfl, by decide +kernel, rfl, by decide +kernel, by decide +kernel⟩
theorem kn_law_laid (T : Txt K mg) : Kn P w K mg base CX0 1 "_law_laid" ["_law_net_here", "_law_other"] (spLaid K) := by
  obtain ⟨f, fd, F, hm⟩ := (T.df 41 (p := (52, "_law_laid")) rfl)
  refine kn_ok F hm sc_law_laid (fun _ _ _ _ _ _ us hl => match us, hl with | [_, _], _ => rfl) (fun vs H Q E h => ?_) (fun cdv A outer s H vs Q E hr h => ?_)
  · obtain ⟨v, u, n, m, s, t, rfl, _⟩ := h
    rfl
  · obtain ⟨v, u, n, m, s, t, rfl, hN, hM, F, F2, hn, hm, hn0, q⟩ := h
    refine ⟨_, (pss_cons (ps_set (i := 2) sc_law_laid.nd rfl (Or.inr rfl) (pe_callB (cK_len (K := K) (by rfl)) (by rfl) T.len bt_len (pa_cons (pe_ix (ixK_tup (K := K) (by rfl)) (pv 0) pe_int (fun _ _ => rfl)) pa_nil)))
  (pss_one (ps_ret (pe_callTy (cK_tuple (K := K) (by rfl)) (by rfl) T.tuple bt_tuple (pa_cons (pe_lc (own := [("_law_n", 3)]) (g := (gName 3)) (by rfl) sc_law_laid.nd (pi_range1 rfl T.range (pa_cons pe_int pa_nil)) (blkOk_by (by kernel_rfl)) (fun _ _ _ _ _ => (pg_name (i := 3) sc_law_laid.nd rfl (by first | exact Or.inl rfl | exact Or.inr rfl))) (fun _ _ _ _ _ => pts_nil) (fun _ _ _ _ _ => (pe_op (opK_cat (K := K) (by rfl)) (pe_ix (ixK_tup (K := K) (by rfl)) (pv 0) (pv 3) (fun _ _ => rfl)) (pe_callTy (cK_tuple (K := K) (by rfl)) (by rfl) T.tuple bt_tuple (pa_cons (pe_lc (own := [("_law_flag", 4)]) (g := (gName 4)) (by rfl) sc_law_laid.nd (piK_tup (K := K) (by rfl) (pe_ix (ixK_tup (K := K) (by rfl)) (pv 1) (pv 3) (fun _ _ => rfl))) (blkOk_by (by kernel_rfl)) (fun _ _ _ _ _ => (pg_name (i := 4) sc_law_laid.nd rfl (by first | exact Or.inl rfl | exact Or.inr rfl))) (fun _ _ _ _ _ => pts_nil) (fun _ _ _ _ _ => (pe_op op_add (pv 4) (pv 2)))) pa_nil))))) pa_nil))))), ?_⟩
    refine asgI (n := n) (g_len0 F (g_var rfl hN)) fun H1 e1 => ?_
    refine retA (K := K) (a := .d (encNet (laid n s t))) (g_is (g_tupOf (g_lcR1 (n := 3) (fun _ => true) (fun c => encR (s.getD c [] ++ (t.getD c []).map (· + n))) (gs_cons g_int gs_nil) (by omega) (fun _ => rfl) (fun _ => flat_R _) (fun i H2 e2 hi => et_yes) (fun c H2 e2 hc _ => ?_))) ?_)
      (fun v H5 e5 hv => q v H5 (e1.trans e5) hv) rfl
    · obtain ⟨ch, hch, hg, hl, _⟩ := F.get hc
      obtain ⟨ch2, hch2, hg2, hl2, _⟩ := F2.get hc
      rw [hg, hg2]
      refine g_is (g_op (a := .d (encR ch)) (b := .d (encR (ch2.map (· + n)))) (g_ixT (i := c) (g_var rfl (show Is K H2 v (.d (encNet s)) from hN.mono (e1.trans e2))) (g_vn rfl) (encNet_get hch)) (g_is (g_tupOf (g_lcT (ds := ch2.map encN) (fun _ => true) (fun k => encN (ch2.getD k 0 + n))
        (g_ixT (i := c) (g_var rfl (show Is K H2 u (.d (encNet t)) from hM.mono (e1.trans e2))) (g_vn rfl) (encNet_get hch2)) (by rw [List.length_map]; omega) (fun _ => rfl) (fun _ => rfl) (fun i x d H1 e1 hd hx => et_yes) (fun k y d H3 e3 hd hy _ => ?_))) ?_) (rg_catA (by rw [List.length_map, List.length_map, List.length_map]; omega))) ?_
      · obtain ⟨z, hz, rfl⟩ := encR_of hd
        cases Dp.int_eq hy
        rw [getD_of hz]
        exact g_op (g_vn (n := z) rfl) (g_vi rfl) rg_add
      · unfold encR
        rw [List.length_map, List.map_map]
        congr 2
        exact givenD_all fun k z hz => by
          show encN (ch2.getD k 0 + n) = _
          rw [getD_of hz]
          rfl
      · unfold encR
        rw [List.map_append]
    · unfold encNet laid
      rw [givenD_range, List.map_map]
      rfl
end
end Nk
/-! ## M1: plain law of rows and parts -/
namespace Nk
open PySem PySem.Spec PyProof.Rows L2 Evl

/-- a form whose changes undo themselves -/
structure Back (n : Nat) (s : Net) : Prop extends Form n s where
  inv : ∀ ch ∈ s, ∀ z < n, ch.getD (ch.getD z 0) 0 = z
def Closed (s : Net) (P : Nat → Prop) : Prop := ∀ z, P z → ∀ ch ∈ s, P (ch.getD z 0)
theorem mem_vis1 {row : List Nat} {t z : Nat} : z ∈ vis1 row t ↔ z ∈ row ∨ z = t := by
  unfold vis1
  by_cases m : t ∈ row
  · rw [if_pos m]
    exact ⟨.inl, fun h => h.elim id fun e => e ▸ m⟩
  · rw [if_neg m, List.mem_append, List.mem_singleton]
theorem mem_visit {x z : Nat} : ∀ {s : Net} {row : List Nat}, z ∈ visit s x row ↔ z ∈ row ∨ ∃ ch ∈ s, ch.getD x 0 = z
  | [], row => by simp [visit]
  | ch :: s, row => by
    show z ∈ visit s x (vis1 row (ch.getD x 0)) ↔ _
    rw [mem_visit (s := s), mem_vis1]
    constructor
    · rintro ((h | h) | ⟨c, hc, h⟩)
      · exact .inl h
      · exact .inr ⟨ch, List.mem_cons_self, h.symm⟩
      · exact .inr ⟨c, List.mem_cons_of_mem _ hc, h⟩
    · rintro (h | ⟨c, hc, h⟩)
      · exact .inl (.inl h)
      · rcases List.mem_cons.mp hc with e | hc
        · subst e
          exact .inl (.inr h.symm)
        · exact .inr ⟨c, hc, h⟩
theorem visit_len {s : Net} {x : Nat} {row : List Nat} : row.length ≤ (visit s x row).length := by
  obtain ⟨t, e⟩ := visit_pre s x row
  rw [e, List.length_append]
  omega
theorem bfsGo_spec {n : Nat} {s : Net} (F : Form n s) : ∀ (k i : Nat) (row : List Nat), k + i = n → i ≤ row.length → row.Nodup → (∀ z ∈ row, z < n) → (∀ j z, j < i → row[j]? = some z → ∀ ch ∈ s, ch.getD z 0 ∈ row) →
    (bfsGo s k row i).Nodup ∧ (∀ z ∈ bfsGo s k row i, z < n) ∧ (∀ z ∈ bfsGo s k row i, ∀ ch ∈ s, ch.getD z 0 ∈ bfsGo s k row i) ∧ ∃ t, bfsGo s k row i = row ++ t
  | 0, i, row, hk, hi, nd, lt, cl => by
    show row.Nodup ∧ _
    refine ⟨nd, lt, fun z (hz : z ∈ row) ch hc => ?_, [], (List.append_nil _).symm⟩
    obtain ⟨j, hj, e⟩ := List.mem_iff_getElem.mp hz
    have := nodup_le nd lt
    exact cl j z (by omega) (by rw [List.getElem?_eq_getElem hj, e]) ch hc
  | k + 1, i, row, hk, hi, nd, lt, cl => by
    by_cases h : i < row.length
    · rw [bfsGo_go h]
      obtain ⟨x, hx⟩ : ∃ x, row[i]? = some x := ⟨row[i], List.getElem?_eq_getElem h⟩
      rw [getD_of hx]
      have hxn : x < n := lt x (List.mem_of_getElem? hx)
      obtain ⟨a, b, c, t, e⟩ := bfsGo_spec F k (i + 1) (visit s x row) (by omega) (by have := visit_len (s := s) (x := x) (row := row); omega) (visit_nodup nd) (visit_lt (F.step hxn) lt) (fun j z hj hz ch hc => by
        by_cases hji : j < i
        · have hz2 : row[j]? = some z := by
            obtain ⟨w, hw⟩ : ∃ w, row[j]? = some w := ⟨row[j]'(by omega), List.getElem?_eq_getElem _⟩
            have := visit_get (s := s) (x := x) hw
            rw [this] at hz
            rw [hw, ← Option.some.inj hz]
          exact mem_visit.mpr (.inl (cl j z hji hz2 ch hc))
        · have hji2 : j = i := by omega
          subst hji2
          have := visit_get (s := s) (x := x) hx
          rw [this] at hz
          cases hz
          exact mem_visit.mpr (.inr ⟨ch, hc, rfl⟩))
      refine ⟨a, b, c, ?_⟩
      obtain ⟨t2, e2⟩ := visit_pre s x row
      exact ⟨t2 ++ t, by rw [e, e2, List.append_assoc]⟩
    · rw [bfsGo_stop h]
      refine ⟨nd, lt, fun z hz ch hc => ?_, [], (List.append_nil _).symm⟩
      obtain ⟨j, hj, e⟩ := List.mem_iff_getElem.mp hz
      exact cl j z (by omega) (by rw [List.getElem?_eq_getElem hj, e]) ch hc
theorem bfsGo_least {s : Net} {P : Nat → Prop} (hP : Closed s P) : ∀ (k i : Nat) (row : List Nat), (∀ z ∈ row, P z) → ∀ z ∈ bfsGo s k row i, P z
  | 0, _, _, h => h
  | k + 1, i, row, h => by
    by_cases hi : i < row.length
    · rw [bfsGo_go hi]
      refine bfsGo_least hP k (i + 1) _ fun z hz => ?_
      rcases mem_visit.mp hz with hz | ⟨ch, hc, e⟩
      · exact h z hz
      · subst e
        refine hP _ (h _ ?_) ch hc
        rw [List.getD_eq_getElem?_getD, List.getElem?_eq_getElem hi]
        exact List.getElem_mem hi
    · rw [bfsGo_stop hi]
      exact h
section
variable {n f : Nat} {s : Net}
theorem bfs_spec (F : Form n s) (hf : f < n) : (bfs s n f).Nodup ∧ (∀ z ∈ bfs s n f, z < n) ∧ (∀ z ∈ bfs s n f, ∀ ch ∈ s, ch.getD z 0 ∈ bfs s n f) ∧ ∃ t, bfs s n f = [f] ++ t :=
  bfsGo_spec F n 0 [f] (by omega) (by simp) (by simp) (by simpa using hf) (fun j z hj => by omega)
theorem bfs_nodup (F : Form n s) (hf : f < n) : (bfs s n f).Nodup := (bfs_spec F hf).1
theorem bfs_lt (F : Form n s) (hf : f < n) : ∀ z ∈ bfs s n f, z < n := (bfs_spec F hf).2.1
theorem bfs_closed (F : Form n s) (hf : f < n) : ∀ z ∈ bfs s n f, ∀ ch ∈ s, ch.getD z 0 ∈ bfs s n f := (bfs_spec F hf).2.2.1
theorem bfs_head (F : Form n s) (hf : f < n) : ∃ t, bfs s n f = f :: t := (bfs_spec F hf).2.2.2
theorem bfs_mem (F : Form n s) (hf : f < n) : f ∈ bfs s n f := by
  obtain ⟨t, e⟩ := bfs_head F hf
  rw [e]
  exact List.mem_cons_self
theorem bfs_least {P : Nat → Prop} (hP : Closed s P) (h : P f) : ∀ z ∈ bfs s n f, P z := bfsGo_least hP n 0 [f] fun z hz => by
  rw [List.mem_singleton.mp hz]
  exact h
theorem bfs_len (F : Form n s) (hf : f < n) : (bfs s n f).length ≤ n := nodup_le (bfs_nodup F hf) (bfs_lt F hf)
theorem bfs_leastN (F : Form n s) (hf : f < n) {P : Nat → Prop} (hP : ∀ z < n, P z → ∀ ch ∈ s, P (ch.getD z 0)) (h : P f) : ∀ z ∈ bfs s n f, P z := fun z hz =>
  (bfs_least (n := n) (s := s) (P := fun z => z < n ∧ P z) (fun z hz ch hc => ⟨F.step hz.1 ch hc, hP z hz.1 hz.2 ch hc⟩) ⟨hf, h⟩ z hz).2
/-- two flags of one part have one part -/
theorem bfs_sub (F : Form n s) {x : Nat} (hf : f < n) (hx : x ∈ bfs s n f) : ∀ z ∈ bfs s n x, z ∈ bfs s n f :=
  bfs_leastN F (bfs_lt F hf x hx) (fun z _ h ch hc => bfs_closed F hf z h ch hc) hx
theorem out_closed (B : Back n s) {U : List Nat} (hU : ∀ z ∈ U, ∀ ch ∈ s, ch.getD z 0 ∈ U) : ∀ z < n, z ∉ U → ∀ ch ∈ s, ch.getD z 0 ∉ U := fun z hz h ch hc q => h (by
  have := hU _ q ch hc
  rwa [B.inv ch hc z hz] at this)
theorem bfs_out (B : Back n s) {U : List Nat} (hU : ∀ z ∈ U, ∀ ch ∈ s, ch.getD z 0 ∈ U) (hf : f < n) (h : f ∉ U) : ∀ z ∈ bfs s n f, z ∉ U := bfs_leastN B.toForm hf (out_closed B hU) h
theorem bfs_sym (B : Back n s) {x : Nat} (hf : f < n) (hx : x ∈ bfs s n f) : f ∈ bfs s n x := by
  have hxn := bfs_lt B.toForm hf x hx
  by_cases h : f ∈ bfs s n x
  · exact h
  · exact absurd (bfs_mem B.toForm hxn) (bfs_out B (bfs_closed B.toForm hxn) hf h x hx)
theorem bfs_same (B : Back n s) {x : Nat} (hf : f < n) (hx : x ∈ bfs s n f) (z : Nat) : z ∈ bfs s n x ↔ z ∈ bfs s n f :=
  ⟨bfs_sub B.toForm hf hx z, bfs_sub B.toForm (bfs_lt B.toForm hf x hx) (bfs_sym B hf hx) z⟩
end
/-! ### the parts, one row each, found from their least flags -/
def partsStep (s : Net) (n : Nat) (found : List (List Nat)) (f : Nat) : List (List Nat) := if f ∈ found.flatten then found else found ++ [bfs s n f]
def partsTo (s : Net) (n i : Nat) : List (List Nat) := (List.range i).foldl (partsStep s n) []
def partsOf (s : Net) (n : Nat) : List (List Nat) := partsTo s n n
theorem partsTo_succ (s : Net) (n i : Nat) : partsTo s n (i + 1) = partsStep s n (partsTo s n i) i := by
  unfold partsTo
  rw [List.range_succ, List.foldl_append]
  rfl
structure PartsInv (n : Nat) (s : Net) (i : Nat) (found : List (List Nat)) : Prop where
  nd : found.flatten.Nodup
  lt : ∀ z ∈ found.flatten, z < n
  cl : ∀ z ∈ found.flatten, ∀ ch ∈ s, ch.getD z 0 ∈ found.flatten
  all : ∀ f < i, f ∈ found.flatten
  row : ∀ r ∈ found, ∃ f, f < n ∧ r = bfs s n f ∧ ∀ z ∈ r, f ≤ z
  len : found.length ≤ i
theorem partsTo_inv {n : Nat} {s : Net} (B : Back n s) : ∀ i, i ≤ n → PartsInv n s i (partsTo s n i)
  | 0, _ => ⟨by simp [partsTo], by simp [partsTo], by simp [partsTo], by omega, by simp [partsTo], by simp [partsTo]⟩
  | i + 1, h => by
    have I := partsTo_inv B i (by omega)
    rw [partsTo_succ]
    unfold partsStep
    have F := B.toForm
    by_cases m : i ∈ (partsTo s n i).flatten
    · rw [if_pos m]
      refine ⟨I.nd, I.lt, I.cl, fun f hf => ?_, I.row, Nat.le_succ_of_le I.len⟩
      rcases Nat.lt_or_ge f i with h1 | h1
      · exact I.all f h1
      · rwa [show f = i by omega]
    · rw [if_neg m]
      have out := bfs_out B I.cl (by omega : i < n) m
      have e : (partsTo s n i ++ [bfs s n i]).flatten = (partsTo s n i).flatten ++ bfs s n i := by simp
      refine ⟨?_, ?_, ?_, ?_, ?_, by rw [List.length_append]; have := I.len; simp; omega⟩
      · rw [e]
        exact List.nodup_append.mpr ⟨I.nd, bfs_nodup F (by omega), fun a ha b hb q => out b hb (q ▸ ha)⟩
      · rw [e]
        exact fun z hz => (List.mem_append.mp hz).elim (I.lt z) (bfs_lt F (by omega) z)
      · rw [e]
        exact fun z hz ch hc => List.mem_append.mpr ((List.mem_append.mp hz).elim (fun q => .inl (I.cl z q ch hc)) (fun q => .inr (bfs_closed F (by omega) z q ch hc)))
      · rw [e]
        intro f hf
        rcases Nat.lt_or_ge f i with h1 | h1
        · exact List.mem_append.mpr (.inl (I.all f h1))
        · exact List.mem_append.mpr (.inr (show f ∈ bfs s n i by rw [show f = i by omega]; exact bfs_mem F (by omega)))
      · intro r hr
        rcases List.mem_append.mp hr with hr | hr
        · exact I.row r hr
        · rw [List.mem_singleton.mp hr]
          refine ⟨i, by omega, rfl, fun z hz => ?_⟩
          rcases Nat.lt_or_ge z i with h1 | h1
          · exact absurd (I.all z h1) (out z hz)
          · exact h1
theorem partsOf_inv {n : Nat} {s : Net} (B : Back n s) : PartsInv n s n (partsOf s n) := partsTo_inv B n (Nat.le_refl n)
theorem partsTo_row {n : Nat} {s : Net} (B : Back n s) {i : Nat} (hi : i ≤ n) {r : List Nat} (hr : r ∈ partsTo s n i) : r.Nodup ∧ (∀ z ∈ r, z < n) ∧ (∀ z ∈ r, ∀ ch ∈ s, ch.getD z 0 ∈ r) := by
  obtain ⟨f, hf, rfl, _⟩ := (partsTo_inv B i hi).row r hr
  exact ⟨bfs_nodup B.toForm hf, bfs_lt B.toForm hf, bfs_closed B.toForm hf⟩
/-! ### rows in order -/
def srt (l : List Nat) : List Nat := l.mergeSort fun a b => decide (a ≤ b)
theorem srt_perm (l : List Nat) : (srt l).Perm l := List.mergeSort_perm l _
theorem srt_le (l : List Nat) : (srt l).Pairwise (· ≤ ·) := by
  have := List.pairwise_mergeSort (le := fun a b : Nat => decide (a ≤ b)) (fun a b c h1 h2 => by simp only [decide_eq_true_eq] at *; omega) (fun a b => by simp only [Bool.or_eq_true, decide_eq_true_eq]; omega) l
  exact this.imp fun h => by simpa using h
theorem srt_uniq {l m : List Nat} (h1 : m.Perm l) (h2 : m.Pairwise (· ≤ ·)) : m = srt l :=
  List.Perm.eq_of_pairwise (le := (· ≤ ·)) (fun a b _ _ h1 h2 => Nat.le_antisymm h1 h2) h2 (srt_le l) (h1.trans (srt_perm l).symm)
theorem mem_srt {l : List Nat} {x : Nat} : x ∈ srt l ↔ x ∈ l := (srt_perm l).mem_iff
theorem srt_len (l : List Nat) : (srt l).length = l.length := (srt_perm l).length_eq
theorem srt_nodup {l : List Nat} (h : l.Nodup) : (srt l).Nodup := (srt_perm l).nodup_iff.mpr h
end Nk
/-! ## W3: all_parts, _law_parts -/
namespace Nk
open PySem PySem.Spec PyProof.Rows L2 Evl

/-- all that H knows, but for m, stands -/
def ExBut (m : Addr) (H H' : Hp) : Prop := ∀ a o, a ≠ m → H a = some o → H' a = some o
theorem ExBut.of {m : Addr} {H H' : Hp} (e : Ex H H') : ExBut m H H' := fun a o _ h => e a o h
theorem ExBut.trans {m : Addr} {H H1 H2 : Hp} (a : ExBut m H H1) (b : ExBut m H1 H2) : ExBut m H H2 := fun x o n h => b x o n (a x o n h)
theorem ExBut.mut {m : Addr} {H H1 : Hp} {o : HO} (a : ExBut m H H1) : ExBut m H (upd H1 m o) := fun x u n h => by
  rw [upd_ne n]
  exact a x u n h
section
variable {K : PySem.W.Frag} {σ : L2.St} {H H0 H' : Hp} {ta tb te tx tl tk tv : TE} {D : Ends} {tz : TS} {v : V}
theorem exBut_tk {m : Addr} {kvs : List (Key × V)} (e : ExBut m H H') (hm : H m = some (.dK kvs)) : Tk H H' := ⟨fun a xs h => e a _ (fun z => by rw [z, hm] at h; cases h) h, fun a o xs h => e a _ (fun z => by rw [z, hm] at h; cases h) h⟩
theorem nl_ints (l : List Nat) : nl l = (l.map fun (n : Nat) => (n : Int)).map V.int := by
  unfold nl
  rw [List.map_map]
  rfl
theorem el_sorted {l : List Nat} (h : EvL te σ H (nl l)) : EvL (tCB (rSortedI K) (tCons te tNil)) σ H (nl (srt l)) := fun H1 e Q q =>
  h H1 e _ fun p H2 hp e2 h2 => ⟨p, l.map fun (n : Nat) => (n : Int), rfl, by rw [← nl_ints]; exact sq_of h2, fun ns' p' hperm hpw hp' => q p' _ (fresh_back e2 hp') (e2.trans (Ex.new hp')) (by
    rw [upd_same, nl_ints]
    congr 3
    refine List.Perm.eq_of_pairwise (le := (· ≤ ·)) (fun a b _ _ h1 h2 => Int.le_antisymm h1 h2) hpw ?_ (hperm.trans ((srt_perm l).map _).symm)
    exact List.pairwise_map.mpr ((srt_le l).imp fun h => by omega))⟩
theorem spl_bfs {n f : Nat} {s : Net} (hN : Dp K H v (encNet s)) (F : Form n s) (hf : f < n) (hn : n ≤ 1000) : SpL (spBfs K) [v, nv f] H (nl (bfs s n f)) := fun H1 e Q q E => ⟨v, n, s, f, rfl, hN.mono e, F, hf, hn, q⟩
theorem g_bfs {n f : Nat} {s : Net} {tf : TE} {E : XK} (h : EvG K te σ H (.d (encNet s))) (hf : EvG K tf σ H (.d (encN f))) (F : Form n s) (hfn : f < n) (hn : n ≤ 1000) : EvG K (tCall (spBfs K) [] E (tCons te (tCons tf tNil))) σ H (.d (encL (bfs s n f))) := fun H1 e Q q =>
  h H1 e _ fun v H2 e2 hv => hf H2 (e.trans e2) _ fun w H3 e3 hw => by
    cases Dp.int_eq hw
    exact ⟨v, n, s, f, rfl, Dp.mono hv e3, F, hfn, hn, fun p H4 hp e4 h4 => q _ H4 ((e2.trans e3).trans e4) (dp_L (sq_of h4))⟩
theorem s_appG {l : Addr} {xs : List V} {d : PyData} (hl : H l = some (.lst xs)) (ha : Ev ta σ H (.ref l)) (h : EvG K te σ H (.d d)) (hz : xs.length < 100000) (k : ∀ x H1, Ex H H1 → Dp K H1 x d → D.nx σ (upd H1 l (.lst (xs ++ [x])))) :
    tDrop (tBM K "list" rAppend ta (tCons te tNil)) D σ H := ha H (Ex.refl H) _ fun H1 e1 =>
  ⟨Or.inl ⟨rfl, xs, sq_of (e1 l _ hl)⟩, h H1 e1 _ fun x H2 e2 hx => ⟨l, xs, x, rfl, rfl, e2 l _ (e1 l _ hl), sz_lt hz, k x H2 (e1.trans e2) hx⟩⟩
/-- for one in row: met[one] = True -/
theorem s_putAll {r m : Addr} {row mt : List Nat} {v0 v1 v3 y5 : Option V} (hm0 : H0 m = none) (hr : SqL K H0 r (nl row)) (e0 : Ex H0 H) (hm : H m = some (.dK (kd mt (.bl true)))) (nd : (mt ++ row).Nodup) (hz : mt.length + row.length ≤ 5000)
    (k : ∀ y H1, Ex H0 H1 → ExBut m H H1 → H1 m = some (.dK (kd (mt ++ row) (.bl true))) → D.nx [v0, v1, some (.ref m), v3, some (.ref r), y] H1) :
    tFor (iList K (tVar 4)) (gName 5) (sDPut (tVar 2) (tVar 5) (tC (.bl true))) D [v0, v1, some (.ref m), v3, some (.ref r), y5] H := by
  refine s_forL (a := r) (xs := nl row) (ev_var rfl) (ex_l e0 hr) (fun i σ H' => ∃ y, σ = [v0, v1, some (.ref m), v3, some (.ref r), y] ∧ Ex H0 H' ∧ ExBut m H H' ∧ H' m = some (.dK (kd (mt ++ row.take i) (.bl true))))
    (fun H1 e1 => ⟨y5, rfl, e0.trans e1, ExBut.of e1, by rw [List.take_zero, List.append_nil]; exact e1 _ _ hm⟩) (fun i σ H' _ hP => let ⟨_, _, e, _⟩ := hP; ex_l e hr) (fun i x σ H' hi hP => ?_) (fun σ H' hP => ?_)
  · obtain ⟨y, rfl, e, eb, hm'⟩ := hP
    unfold nl at hi
    rw [List.getElem?_map] at hi
    obtain ⟨z, hzi, rfl⟩ := Option.map_eq_some_iff.mp hi
    have hil : i < row.length := (List.getElem?_eq_some_iff.mp hzi).1
    have hnew : z ∉ mt ++ row.take i := by
      intro hmem
      have h2 : mt ++ row = (mt ++ row.take i) ++ row.drop i := by rw [List.append_assoc, List.take_append_drop]
      rw [h2] at nd
      have hd : z ∈ row.drop i := by
        rw [List.mem_iff_getElem?]
        exact ⟨0, by rw [List.getElem?_drop]; exact hzi⟩
      exact (List.nodup_append.mp nd).2.2 z hmem z hd rfl
    show sDPut (tVar 2) (tVar 5) (tC (.bl true)) _ _ _
    refine putD1 hm' ev_c (ev_var rfl) (ev_var (v := nv z) rfl) (by rw [kd_len, List.length_append, List.length_take]; omega) fun H5 e5 => ?_
    refine ⟨_, rfl, Ex.mut (e.trans e5) hm0, (eb.trans (ExBut.of e5)).mut, ?_⟩
    rw [upd_same, putK_kd hnew, List.append_assoc, List.take_add_one, hzi]
    rfl
  · obtain ⟨y, rfl, e, eb, hm'⟩ := hP
    rw [nl_len, List.take_length] at hm'
    exact k _ _ e eb hm'
theorem q_putAll {r m : Addr} {row mt : List Nat} {v0 v1 v3 y5 : Option V} (hm0 : H0 m = none) (hr : SqL K H0 r (nl row)) (e0 : Ex H0 H) (hm : H m = some (.dK (kd mt (.bl true)))) (nd : (mt ++ row).Nodup) (hz : mt.length + row.length ≤ 5000)
    (k : ∀ y H1, Ex H0 H1 → ExBut m H H1 → H1 m = some (.dK (kd (mt ++ row) (.bl true))) → tz D [v0, v1, some (.ref m), v3, some (.ref r), y] H1) :
    tSeq (tFor (iList K (tVar 4)) (gName 5) (sDPut (tVar 2) (tVar 5) (tC (.bl true)))) tz D [v0, v1, some (.ref m), v3, some (.ref r), y5] H := s_putAll (D := { D with nx := tz D }) hm0 hr e0 hm nd hz k
end
section
variable {K : PySem.W.Frag} {σ : L2.St} {H : Hp} {D : Ends} {tz : TS}
/-- a, b = [], {} -/
theorem q_parLE {i j : Nat} (c : ∀ r p H1, H r = none → H p = none → r ≠ p → Ex H H1 → H1 r = some (.lst []) → H1 p = some (.dK []) → tz D ((σ.set i (some (.ref r))).set j (some (.ref p))) H1) :
    tSeq (tPar i j (tCons (tLst tNil) (tCons tDNewK tNil))) tz D σ H := by
  unfold tSeq tPar tCons
  refine (el_lst ea_nil (by show 0 ≤ 100000; omega)) H (Ex.refl H) _ fun r H1 r0 e1 h1 => ?_
  intro p hp
  have rp : r ≠ p := ne_of_none h1 hp
  exact ⟨.ref r, .ref p, rfl, c r p _ r0 (fresh_back e1 hp) rp (e1.trans (Ex.new hp)) (by rw [upd_ne rp]; exact h1) upd_same⟩
end
def encS (r : List Nat) : PyData := encR (srt r)
def spParts (K : PySem.W.Frag) : Sp := fun vs H Q _ => ∃ (v : V) (n : Nat) (s : Net), vs = [v] ∧ Dp K H v (encNet s) ∧ Back n s ∧ n ≤ 1000 ∧ RetA K (.d (.tuple ((partsOf s n).map encS))) H Q
def spLParts (K : PySem.W.Frag) : Sp := fun vs H Q _ => ∃ (v : V) (n : Nat) (s : Net), vs = [v] ∧ Dp K H v (encNet s) ∧ Back n s ∧ n ≤ 1000 ∧ RetA K (.d (.list ((partsOf s n).map encL))) H Q
theorem flat_S (l : List (List Nat)) : flatTs (l.map encS) = true := flatTs_of fun d hd => by
  obtain ⟨n, _, rfl⟩ := List.mem_map.mp hd
  exact flat_R _
theorem srt_out {n i : Nat} {s : Net} (B : Back n s) (hi : i < n) (m : i ∉ (partsTo s n i).flatten) : partsTo s n (i + 1) = partsTo s n i ++ [bfs s n i] ∧ (∀ z ∈ bfs s n i, z ∉ (partsTo s n i).flatten) := by
  rw [partsTo_succ]
  unfold partsStep
  rw [if_neg m]
  exact ⟨rfl, bfs_out B (partsTo_inv B i (by omega)).cl hi m⟩
section
variable {P : Program} {w : World} {K : PySem.W.Frag} {mg : Str → Option Value} {base : Heap}
theorem sc_all_parts : FnScope ["net", "found", "met", "flag", "row", "one"] ["net"] (defScope (top 19)) := ⟨rfl, rfl, rfl, by decide +kernel, rfl, by decide +kernel, by decide +kernel⟩
theorem kn_all_parts (T : Txt K mg) (G_met_from : Kn P w K mg base CX0 1 "met_from" ["net", "flag"] (spBfs K)) : Kn P w K mg base CX0 2 "all_parts" ["net"] (spParts K) := by
  obtain ⟨f, fd, F, hm⟩ := (T.df 10 (p := (19, "all_parts")) rfl)
  refine kn_ok F hm sc_all_parts (fun _ _ _ _ _ _ us hl => match us, hl with | [_], _ => rfl) (fun vs H Q E h => ?_) (fun cdv A outer s H vs Q E hr h => ?_)
  · obtain ⟨v, n, s, rfl, _⟩ := h
    rfl
  · obtain ⟨v, n, s, rfl, hN, B, hn, q⟩ := h
    have F := B.toForm
    refine ⟨_, (pss_cons (ps_set (i := 1) sc_all_parts.nd rfl (Or.inl rfl) (pe_lst pa_nil))
  (pss_cons (ps_set (i := 2) sc_all_parts.nd rfl (Or.inl rfl) pe_dnewK)
  (pss_cons (ps_for PassesOwn.never rfl (pi_range1 rfl T.range (pa_cons (pe_callB (cK_len (K := K) (by rfl)) (by rfl) T.len bt_len (pa_cons (pe_ix (ixK_tup (K := K) (by rfl)) (pv 0) pe_int (fun _ _ => rfl)) pa_nil)) pa_nil)) (pg_name (i := 3) sc_all_parts.nd rfl (by first | exact Or.inl rfl | exact Or.inr rfl))
  (pss_one (ps_if (pt_cmp (pc_dnotin (hu_of hr) (pv 3) (pv 2)))
  (pss_cons (ps_set (i := 4) sc_all_parts.nd rfl (Or.inl rfl) (pe_callB (cK_sortedI (K := K) (by rfl)) (by rfl) T.sorted bt_sorted (pa_cons (pe_kn G_met_from (hr.mono (by decide)) (by rfl) pass0 (pa_cons (pv 0) (pa_cons (pv 3) pa_nil))) pa_nil)))
  (pss_cons (ps_for PassesOwn.never rfl (piK_list (K := K) (by rfl) (pv 4)) (pg_name (i := 5) sc_all_parts.nd rfl (by first | exact Or.inl rfl | exact Or.inr rfl))
  (pss_one (ps_dput (hu_of hr) (pv 2) (pv 5) pe_bl rfl)))
  (pss_one (ps_expr (pe_bmK (K := K) (by rfl) PySem.F.plainAttrs_list PySem.F.slot_list_append PySem.F.type_list_append mt_append (pv 1) (pa_cons (pe_callTy (cK_tuple (K := K) (by rfl)) (by rfl) T.tuple bt_tuple (pa_cons (pv 4) pa_nil)) pa_nil))))))
  pss_nil)))
  (pss_one (ps_ret (pe_callTy (cK_tuple (K := K) (by rfl)) (by rfl) T.tuple bt_tuple (pa_cons (pv 1) pa_nil))))))), ?_⟩
    refine q_asgL (el_lst ea_nil (by show 0 ≤ 100000; omega)) fun fo H1 fo0 e1 hf1 => ?_
    refine asgD0 fun m m0 => ?_
    have ne : fo ≠ m := ne_of_none hf1 m0
    have mH : H m = none := fresh_back e1 m0
    refine q_forR1 (n := n) (ea_cons (g_ev (g_toV (g_len0 F (g_var rfl (show Is K _ v (.d (encNet s)) from hN.mono (e1.trans (Ex.new m0))))))) ea_nil) (by omega)
      (fun i σ H' => ∃ (y3 y4 y5 : Option V) (mt : List Nat) (ys : List V), σ = [some v, some (.ref fo), some (.ref m), y3, y4, y5] ∧ Ex H H' ∧ H' fo = some (.lst ys) ∧ DpAll K H' ys ((partsTo s n i).map encS) ∧
        H' m = some (.dK (kd mt (.bl true))) ∧ mt.Nodup ∧ ∀ z, z ∈ mt ↔ z ∈ (partsTo s n i).flatten)
      (fun H2 e2 => ⟨none, none, none, [], [], rfl, (e1.trans (Ex.new m0)).trans e2, e2 _ _ (by rw [upd_ne ne]; exact hf1), .nil, e2 _ _ upd_same, by simp, fun z => by simp [partsTo]⟩) (fun i σ' H' hi hP => ?_) (fun σ' H' hP => ?_)
    · obtain ⟨y3, y4, y5, mt, ys, rfl, e, hfo, hys, hmt, nd, mem⟩ := hP
      have hin : i < n := by omega
      have I := partsTo_inv B i (by omega)
      refine s_when (et_notin hmt (ev_var rfl) (ev_var rfl)) (fun hb H4 e4 => ?_) (fun hb H4 e4 => ?_)
      · have hnm : i ∉ mt := by
          intro hmem
          rw [valV_kd, if_pos hmem] at hb
          cases hb
        obtain ⟨hnew, hout⟩ := srt_out B hin (fun q => hnm ((mem i).mpr q))
        have hlm : mt.length ≤ n := nodup_le nd fun z hz => I.lt z ((mem z).mp hz)
        refine q_asgL (el_sorted (el_call (dvs := []) (ea_cons (ev_var rfl) (ea_cons (ev_var rfl) ea_nil)) (spl_bfs (hN.mono (e.trans e4)) F hin hn))) fun r H5 r0 e5 hr5 => ?_
        have hbl : (bfs s n i).length ≤ n := bfs_len F hin
        have hrm : r ≠ m := fun z => by rw [z, e4 _ _ hmt] at r0; cases r0
        have hrf : r ≠ fo := fun z => by rw [z, e4 _ _ hfo] at r0; cases r0
        have hmt5 := e5 _ _ (e4 _ _ hmt)
        have hfo5 := e5 _ _ (e4 _ _ hfo)
        have hys5 : DpAll K H5 ys ((partsTo s n i).map encS) := hys.mono (e4.trans e5)
        -- what stands while met changes
        have hex5 := (e.trans e4).trans e5
        let H0 : Hp := fun a => if a = m then none else H5 a
        have e05 : Ex H0 H5 := fun a o ha => by
          by_cases q : a = m
          · simp [H0, q] at ha
          · simpa [H0, q] using ha
        have eh0 : Ex H H0 := fun a o ha => by
          have q : a ≠ m := fun z => by rw [z, mH] at ha; cases ha
          simpa [H0, q] using hex5 a o ha
        refine q_putAll (H0 := H0) (m := m) (r := r) (row := srt (bfs s n i)) (mt := mt) (by simp [H0]) (sq_of (by simpa [H0, hrm] using hr5)) e05 hmt5 ?_ (by rw [srt_len]; omega) fun y H6 e6 eb6 hm6 => ?_
        · exact List.nodup_append.mpr ⟨nd, srt_nodup (bfs_nodup F hin), fun a ha b hb q => hout b (mem_srt.mp hb) (by rw [← q]; exact (mem a).mp ha)⟩
        have hr6 : H6 r = some (.lst (nl (srt (bfs s n i)))) := eb6 _ _ hrm hr5
        have hfo6 : H6 fo = some (.lst ys) := eb6 _ _ ne hfo5
        have hys6 : DpAll K H6 ys ((partsTo s n i).map encS) := hys5.tk (exBut_tk eb6 hmt5) (flat_S _)
        refine s_appG (K := K) (d := encS (bfs s n i)) hfo6 (ev_var rfl) (g_tupOf (ds := (srt (bfs s n i)).map encN) (g_var rfl (dp_L (sq_of hr6)))) (by rw [hys6.length, List.length_map]; have := I.len; omega) fun x H7 e7 hx7 => ?_
        have hfo7 := e7 _ _ hfo6
        refine ⟨_, _, _, mt ++ srt (bfs s n i), ys ++ [x], rfl, Ex.mut ((eh0.trans e6).trans e7) fo0, upd_same, ?_, ?_, ?_, ?_⟩
        · rw [hnew, List.map_append]
          exact (((hys6.mono e7).tk (Tk.lst hfo7) (flat_S _))).app (.cons (Dp.tk hx7 (Tk.lst hfo7) (flat_R _)) .nil)
        · rw [upd_ne ne.symm]
          exact e7 _ _ hm6
        · exact List.nodup_append.mpr ⟨nd, srt_nodup (bfs_nodup F hin), fun a ha b hb q => hout b (mem_srt.mp hb) (by rw [← q]; exact (mem a).mp ha)⟩
        · intro z
          rw [hnew, List.mem_append, mem, mem_srt]
          simp
      · have hmem : i ∈ mt := by
          by_cases hmem : i ∈ mt
          · exact hmem
          · rw [valV_kd, if_neg hmem] at hb
            cases hb
        have hst : partsTo s n (i + 1) = partsTo s n i := by
          rw [partsTo_succ]
          exact if_pos ((mem i).mp hmem)
        refine ⟨_, _, _, mt, ys, rfl, e.trans e4, e4 _ _ hfo, ?_, e4 _ _ hmt, nd, ?_⟩
        · rw [hst]
          exact hys.mono e4
        · rw [hst]
          exact mem
    · obtain ⟨y3, y4, y5, mt, ys, rfl, e, hfo, hys, hmt, nd, mem⟩ := hP
      rw [Int.toNat_natCast] at hys
      exact retA (g_tupOf (g_var rfl (show Is K H' (.ref fo) (.d (.list ((partsOf s n).map encS))) from .lst (sq_of hfo) hys))) (fun v H5 e5 hv => q v H5 (e.trans e5) hv) rfl
theorem sc_law_parts : FnScope ["_law_net_here", "_law_found", "_law_met", "_law_flag", "_law_row", "_law_one"] ["_law_net_here"] (defScope (top 49)) := ⟨rfl, rfl, rfl, by decide +kernel, rfl, by decide +kernel, by decide +kernel⟩
theorem kn_law_parts (T : Txt K mg) (G_law_part : Kn P w K mg base CX0 1 "_law_part" ["_law_net_here", "_law_flag"] (spBfs K)) : Kn P w K mg base CX0 2 "_law_parts" ["_law_net_here"] (spLParts K) := by
  obtain ⟨f, fd, F, hm⟩ := (T.df 38 (p := (49, "_law_parts")) rfl)
  refine kn_ok F hm sc_law_parts (fun _ _ _ _ _ _ us hl => match us, hl with | [_], _ => rfl) (fun vs H Q E h => ?_) (fun cdv A outer s H vs Q E hr h => ?_)
  · obtain ⟨v, n, s, rfl, _⟩ := h
    rfl
  · obtain ⟨v, n, s, rfl, hN, B, hn, q⟩ := h
    have F := B.toForm
    refine ⟨_, (pss_cons (ps_par (i := 1) (j := 2) (by rfl) sc_law_parts.nd rfl rfl (by decide) rfl rfl (pa_cons (pe_lst pa_nil) (pa_cons pe_dnewK pa_nil)) (by rfl))
  (pss_cons (ps_for PassesOwn.never rfl (pi_range1 rfl T.range (pa_cons (pe_callB (cK_len (K := K) (by rfl)) (by rfl) T.len bt_len (pa_cons (pe_ix (ixK_tup (K := K) (by rfl)) (pv 0) pe_int (fun _ _ => rfl)) pa_nil)) pa_nil)) (pg_name (i := 3) sc_law_parts.nd rfl (by first | exact Or.inl rfl | exact Or.inr rfl))
  (pss_one (ps_if (pt_cmp (pc_dnotin (hu_of hr) (pv 3) (pv 2)))
  (pss_cons (ps_set (i := 4) sc_law_parts.nd rfl (Or.inl rfl) (pe_kn G_law_part (hr.mono (by decide)) (by rfl) pass0 (pa_cons (pv 0) (pa_cons (pv 3) pa_nil))))
  (pss_cons (ps_expr (pe_bmK (K := K) (by rfl) PySem.F.plainAttrs_list PySem.F.slot_list_append PySem.F.type_list_append mt_append (pv 1) (pa_cons (pv 4) pa_nil)))
  (pss_one (ps_for PassesOwn.never rfl (piK_list (K := K) (by rfl) (pv 4)) (pg_name (i := 5) sc_law_parts.nd rfl (by first | exact Or.inl rfl | exact Or.inr rfl))
  (pss_one (ps_dput (hu_of hr) (pv 2) (pv 5) pe_bl rfl))))))
  pss_nil)))
  (pss_one (ps_ret (pv 1))))), ?_⟩
    refine q_parLE fun fo m H1 fo0 mH ne e1 hf1 hm1 => ?_
    refine q_forR1 (n := n) (ea_cons (g_ev (g_toV (g_len0 F (g_var rfl (show Is K _ v (.d (encNet s)) from hN.mono e1))))) ea_nil) (by omega)
      (fun i σ H' => ∃ (y3 y4 y5 : Option V) (Hk : Hp) (ys : List V), σ = [some v, some (.ref fo), some (.ref m), y3, y4, y5] ∧ Ex H Hk ∧ Ex Hk H' ∧ Hk fo = none ∧ Hk m = none ∧ H' fo = some (.lst ys) ∧ DpAll K Hk ys ((partsTo s n i).map encL) ∧
        H' m = some (.dK (kd (partsTo s n i).flatten (.bl true))))
      (fun H2 e2 => ⟨none, none, none, H, [], rfl, Ex.refl H, e1.trans e2, fo0, mH, e2 _ _ hf1, .nil, e2 _ _ hm1⟩) (fun i σ' H' hi hP => ?_) (fun σ' H' hP => ?_)
    · obtain ⟨y3, y4, y5, Hk, ys, rfl, ek, e, kfo, km, hfo, hys, hmt⟩ := hP
      have hin : i < n := by omega
      have I := partsTo_inv B i (by omega)
      refine s_when (et_notin hmt (ev_var rfl) (ev_var rfl)) (fun hb H4 e4 => ?_) (fun hb H4 e4 => ?_)
      · have hnm : i ∉ (partsTo s n i).flatten := by
          intro hmem
          rw [valV_kd, if_pos hmem] at hb
          cases hb
        obtain ⟨hnew, hout⟩ := srt_out B hin hnm
        have hlm : (partsTo s n i).flatten.length ≤ n := nodup_le I.nd I.lt
        refine q_asgL (el_call (dvs := []) (ea_cons (ev_var rfl) (ea_cons (ev_var rfl) ea_nil)) (spl_bfs (hN.mono ((ek.trans e).trans e4)) F hin hn)) fun r H5 r0 e5 hr5 => ?_
        have hbl : (bfs s n i).length ≤ n := bfs_len F hin
        have hmt5 := e5 _ _ (e4 _ _ hmt)
        have hfo5 := e5 _ _ (e4 _ _ hfo)
        have hrm : r ≠ m := fun z => by rw [z, e4 _ _ hmt] at r0; cases r0
        have hrf : r ≠ fo := fun z => by rw [z, e4 _ _ hfo] at r0; cases r0
        have hkr : Hk r = none := fresh_back (e.trans e4) r0
        refine q_app (v := .ref r) hfo5 (ev_var rfl) (ev_var rfl) (by rw [hys.length, List.length_map]; have := I.len; omega) fun H6 e6 => ?_
        have hm6 : (upd H6 fo (.lst (ys ++ [.ref r]))) m = some (.dK (kd (partsTo s n i).flatten (.bl true))) := by
          rw [upd_ne ne.symm]
          exact e6 _ _ hmt5
        have hr6 : (upd H6 fo (.lst (ys ++ [.ref r]))) r = some (.lst (nl (bfs s n i))) := by
          rw [upd_ne hrf]
          exact e6 _ _ hr5
        let Hn : Hp := upd Hk r (.lst (nl (bfs s n i)))
        have en : Ex Hn (upd H6 fo (.lst (ys ++ [.ref r]))) := fun a o ha => by
          by_cases q : a = r
          · subst q
            simp only [Hn, upd_same] at ha
            rw [hr6, ha]
          · rw [show Hn a = Hk a from upd_ne q] at ha
            rw [upd_ne (fun z => by rw [z, kfo] at ha; cases ha)]
            exact e6 _ _ (e5 _ _ (e4 _ _ (e _ _ ha)))
        have hnm0 : Hn m = none := by
          rw [show Hn m = Hk m from upd_ne (Ne.symm hrm)]
          exact km
        have hnf0 : Hn fo = none := by
          rw [show Hn fo = Hk fo from upd_ne (Ne.symm hrf)]
          exact kfo
        refine s_putAll (H0 := Hn) (m := m) (r := r) (row := bfs s n i) (mt := (partsTo s n i).flatten) hnm0 (sq_of (show Hn r = _ from upd_same)) en hm6 (List.nodup_append.mpr ⟨I.nd, bfs_nodup F hin, fun a ha b hb q => hout b hb (by rw [← q]; exact ha)⟩) (by omega) fun y H7 e7 eb7 hm7 => ?_
        refine ⟨_, _, _, Hn, ys ++ [.ref r], rfl, ek.trans (Ex.new hkr), e7, hnf0, hnm0, eb7 _ _ ne upd_same, ?_, ?_⟩
        · rw [hnew, List.map_append]
          exact (hys.mono (Ex.new hkr)).app (.cons (dp_L (sq_of (show Hn r = _ from upd_same))) .nil)
        · rw [hm7, hnew]
          simp
      · have hmem : i ∈ (partsTo s n i).flatten := by
          by_cases hmem : i ∈ (partsTo s n i).flatten
          · exact hmem
          · rw [valV_kd, if_neg hmem] at hb
            cases hb
        have hst : partsTo s n (i + 1) = partsTo s n i := by
          rw [partsTo_succ]
          exact if_pos hmem
        exact ⟨_, _, _, Hk, ys, rfl, ek, e.trans e4, kfo, km, e4 _ _ hfo, by rw [hst]; exact hys, by rw [hst]; exact e4 _ _ hmt⟩
    · obtain ⟨y3, y4, y5, Hk, ys, rfl, ek, e, kfo, km, hfo, hys, hmt⟩ := hP
      rw [Int.toNat_natCast] at hys
      exact retA (g_var rfl (show Is K H' (.ref fo) (.d (.list ((partsOf s n).map encL))) from .lst (sq_of hfo) (hys.mono e))) (fun v H5 e5 hv => q v H5 ((ek.trans e).trans e5) hv) rfl
end
end Nk
/-! ## W4: is_whole .. net_fault -/
namespace Nk
open PySem PySem.Spec PyProof.Rows L2 Evl

mutual
theorem drMono {K : PySem.W.Frag} {H H' : Hp} (e : Ex H H') : ∀ (d : PyData) (v : V), Dr K H v d → Dr K H' v d
  | .list ds, _, h => by
    cases h with
    | dp h => exact .dp (h.mono e)
    | lst h1 h2 => exact .lst (ex_l e h1) (drAllMono e ds _ h2)
  | .tuple ds, _, h => by
    cases h with
    | dp h => exact .dp (h.mono e)
    | tup h1 h2 => exact .tup (ex_t e h1) (drAllMono e ds _ h2)
  | .dict _, _, h => by
    cases h with
    | dp h => exact .dp (h.mono e)
    | emp h => exact .emp (e _ _ h)
  | .none, _, h => by cases h with | dp h => exact .dp (h.mono e)
  | .bool _, _, h => by cases h with | dp h => exact .dp (h.mono e)
  | .int _, _, h => by cases h with | dp h => exact .dp (h.mono e)
  | .str _, _, h => by cases h with | dp h => exact .dp (h.mono e)
theorem drAllMono {K : PySem.W.Frag} {H H' : Hp} (e : Ex H H') : ∀ (ds : List PyData) (vs : List V), DrAll K H vs ds → DrAll K H' vs ds
  | [], _, h => by cases h; exact .nil
  | d :: ds, _, h => by
    cases h with
    | cons h1 h2 => exact .cons (drMono e d _ h1) (drAllMono e ds _ h2)
end
section
variable {K : PySem.W.Frag} {H H' : Hp} {v : V} {vs : List V} {d : PyData} {ds : List PyData}
theorem dr_mono (h : Dr K H v d) (e : Ex H H') : Dr K H' v d := drMono e _ _ h
theorem drAll_mono (h : DrAll K H vs ds) (e : Ex H H') : DrAll K H' vs ds := drAllMono e _ _ h
theorem drAll_of : ∀ {vs : List V} {ds : List PyData}, DpAll K H vs ds → DrAll K H vs ds
  | _, _, .nil => .nil
  | _, _, .cons h t => .cons (.dp h) (drAll_of t)
theorem drAll_len : ∀ {vs : List V} {ds : List PyData}, DrAll K H vs ds → vs.length = ds.length
  | _, _, .nil => rfl
  | _, _, .cons _ t => congrArg (· + 1) (drAll_len t)
theorem drAll_get : ∀ {vs : List V} {ds : List PyData} {i : Nat} {d : PyData}, DrAll K H vs ds → ds[i]? = some d → ∃ v, vs[i]? = some v ∧ Dr K H v d
  | _, _, _, _, .nil, h => by simp at h
  | _, _, 0, _, .cons h _, e => by
    have e2 := Option.some.inj e
    subst e2
    exact ⟨_, rfl, h⟩
  | _, _, i + 1, _, .cons _ t, e => drAll_get (i := i) t e
theorem drAll_getv : ∀ {vs : List V} {ds : List PyData} {i : Nat} {v : V}, DrAll K H vs ds → vs[i]? = some v → ∃ d, ds[i]? = some d ∧ Dr K H v d
  | _, _, _, _, .nil, h => by simp at h
  | _, _, 0, _, .cons h _, e => by
    have e2 := Option.some.inj e
    subst e2
    exact ⟨_, rfl, h⟩
  | _, _, i + 1, _, .cons _ t, e => drAll_getv (i := i) t e
theorem dr_tup (h : Dr K H v (.tuple ds)) : ∃ a xs, v = .ref a ∧ SqT K H a xs ∧ DrAll K H xs ds := by
  cases h with
  | dp h =>
    cases h with
    | @tup a xs _ h1 h2 => exact ⟨a, xs, rfl, h1, drAll_of h2⟩
  | @tup a xs _ h1 h2 => exact ⟨a, xs, rfl, h1, h2⟩
theorem dr_int {i : Int} (h : Dr K H v (.int i)) : v = .int i := by
  cases h with
  | dp h => exact h.int_eq
def tyName : PyData → String
  | .none => "NoneType"
  | .bool _ => "bool"
  | .int _ => "int"
  | .str _ => "str"
  | .list _ => "list"
  | .tuple _ => "tuple"
  | .dict _ => "dict"
theorem tyx_l {a : Addr} {xs : List V} (h : SqL K H a xs) : TyX K H (.ref a) (.type "list") := by
  rcases h with (h | ⟨o, h⟩) | ⟨o, its, n, h1, h2, _⟩
  · exact .base (.lst h)
  · exact .base (.frz h)
  · exact .kList h1 h2
theorem tyx_t {a : Addr} {xs : List V} (h : SqT K H a xs) : TyX K H (.ref a) (.type "tuple") := by
  rcases h with (h | ⟨o, h⟩) | ⟨o, its, n, h1, h2, _⟩
  · exact .base (.tup h)
  · exact .fTuple h
  · exact .kTuple h1 h2
theorem tyx_of (h : Dr K H v d) : TyX K H v (.type (tyName d)) := by
  cases h with
  | dp h =>
    cases h with
    | non => exact .base .non
    | bl => exact .base (.bl _)
    | int => exact .base (.int _)
    | str => exact .base (.str _)
    | lst h1 _ => exact tyx_l h1
    | tup h1 _ => exact tyx_t h1
  | emp h => exact .base (.dK h)
  | lst h1 _ => exact tyx_l h1
  | tup h1 _ => exact tyx_t h1
theorem g_vv {σ : L2.St} {i : Nat} (h : σ[i]? = some (some v)) : EvG K (tVar i) σ H (.v v) := g_var h rfl
def isiD (d : PyData) (n : String) : Bool := tyName d == n || (tyName d == "bool" && n == "int")
theorem kitB_of (d : PyData) (n : String) (h : n = "int" ∨ n = "bool" ∨ n = "tuple") : kitB (tyName d) n = some (isiD d n) := by
  have : tyName d ∈ ["NoneType", "bool", "int", "str", "list", "tuple", "dict"] := by cases d <;> simp [tyName]
  unfold isiD
  revert this
  generalize tyName d = t
  intro this
  have all : ∀ t ∈ ["NoneType", "bool", "int", "str", "list", "tuple", "dict"], ∀ n ∈ ["int", "bool", "tuple"], kitB t n = some (t == n || (t == "bool" && n == "int")) := by decide +kernel
  exact all t this n (by rcases h with rfl | rfl | rfl <;> simp)
variable {σ : L2.St} {te tb ta : TE}
/-- isinstance(x, T) -/
theorem g_isi {n : String} (hn : n = "int" ∨ n = "bool" ∨ n = "tuple") (h : EvG K te σ H (.v v)) (hd : Dr K H v d) : EvG K (tCB (rIsi K) (tCons te (tCons (tC (.ty n)) tNil))) σ H (.d (.bool (isiD d n))) := fun H1 e Q q =>
  h H1 e _ fun w H2 e2 hw => by
    have hw' : w = v := hw
    subst hw'
    exact ⟨w, .ty n, .type (tyName d), .type n, isiD d n, rfl, .ty n, tyx_of (dr_mono hd (e.trans e2)), kit_ty (kitB_of d n hn), q _ H2 e2 (.bl _)⟩
def wholeD (d : PyData) : Bool := match d with | .int _ => true | _ => false
def withinD (d : PyData) (lo hi : Int) : Bool := match d with | .int i => decide (lo ≤ i) && decide (i ≤ hi) | _ => false
def tupD (d : PyData) (n : Int) : Bool := match d with | .tuple ds => decide ((ds.length : Int) = n) | _ => false
theorem wholeD_eq (d : PyData) : wholeD d = (isiD d "int" && !isiD d "bool") := by cases d <;> simp [wholeD, isiD, tyName]
end
def spWhole (K : PySem.W.Frag) : Sp := fun vs H Q _ => ∃ (v : V) (d : PyData), vs = [v] ∧ Dr K H v d ∧ RetA K (.d (.bool (wholeD d))) H Q
def spWithin (K : PySem.W.Frag) : Sp := fun vs H Q _ => ∃ (v : V) (d : PyData) (lo hi : Int), vs = [v, .int lo, .int hi] ∧ Dr K H v d ∧ RetA K (.d (.bool (withinD d lo hi))) H Q
def spTupOf (K : PySem.W.Frag) : Sp := fun vs H Q _ => ∃ (v : V) (d : PyData) (n : Int), vs = [v, .int n] ∧ Dr K H v d ∧ RetA K (.d (.bool (tupD d n))) H Q
section
variable {K : PySem.W.Frag} {H : Hp} {v : V} {d : PyData}
theorem spg_whole (h : Dr K H v d) : SpG K (spWhole K) H [.v v] (.d (.bool (wholeD d))) := fun vs H1 e hv Q E q => by
  match vs, hv with
  | [w], hv =>
    have : w = v := hv.1
    subst this
    exact ⟨w, d, rfl, dr_mono h e, q⟩
theorem spg_within {lo hi : Int} (h : Dr K H v d) : SpG K (spWithin K) H [.v v, .d (.int lo), .d (.int hi)] (.d (.bool (withinD d lo hi))) := fun vs H1 e hv Q E q => by
  match vs, hv with
  | [w, a, b], hv =>
    have : w = v := hv.1
    subst this
    cases Dp.int_eq hv.2.1
    cases Dp.int_eq hv.2.2.1
    exact ⟨w, d, lo, hi, rfl, dr_mono h e, q⟩
theorem spg_tupOf {n : Int} (h : Dr K H v d) : SpG K (spTupOf K) H [.v v, .d (.int n)] (.d (.bool (tupD d n))) := fun vs H1 e hv Q E q => by
  match vs, hv with
  | [w, a], hv =>
    have : w = v := hv.1
    subst this
    cases Dp.int_eq hv.2.1
    exact ⟨w, d, n, rfl, dr_mono h e, q⟩
end
/-! ### which rule breaks -/
def brk (s : Net) (r : Str) (f : Nat) : Bool :=
  if r = "back" then s.any fun ch => !decide (ch.getD (ch.getD f 0) 0 = f)
  else if r = "still" then s.any fun ch => decide (ch.getD f 0 = f)
  else if r = "square" then !decide (ap s 2 (ap s 0 f) = ap s 0 (ap s 2 f))
  else decide (ap s 2 (ap s 0 f) = f)
def rules : List Str := ["back", "still", "square", "apart"]
def ruleFault (s : Net) (n : Nat) (r : Str) : Option Nat := (List.range n).find? fun f => brk s r f
def faultD (s : Net) (n : Nat) : PyData := match rules.findSome? (fun r => (ruleFault s n r).map fun f => (r, f)) with
  | none => .none
  | some p => .tuple [.str p.1, encN p.2]
def spForm (K : PySem.W.Frag) : Sp := fun vs H Q _ => ∃ (v : V) (s : Net), vs = [v] ∧ Dp K H v (encNet s) ∧ (s.length ≠ 3 ∨ ∃ n, Form n s ∧ 4 ≤ n ∧ n ≤ 960) ∧ RetA K (.d (.bool (decide (s.length = 3)))) H Q
def spBreaks (K : PySem.W.Frag) : Sp := fun vs H Q _ => ∃ (v : V) (n : Nat) (s : Net) (r : Str) (f : Nat), vs = [v, .str r, nv f] ∧ Dp K H v (encNet s) ∧ Form n s ∧ n ≤ 1000 ∧ f < n ∧ RetA K (.d (.bool (brk s r f))) H Q
def spFault (K : PySem.W.Frag) : Sp := fun vs H Q _ => ∃ (v : V) (s : Net) (d : PyData), vs = [v] ∧ Dp K H v (encNet s) ∧ ((s.length ≠ 3 ∧ d = .tuple [.str "form", .none]) ∨ ∃ n, Form n s ∧ 4 ≤ n ∧ n ≤ 960 ∧ d = faultD s n) ∧ RetA K (.d d) H Q
section
variable {P : Program} {w : World} {K : PySem.W.Frag} {mg : Str → Option Value} {base : Heap}
theorem sc_is_whole : FnScope ["value"] ["value"] (defScope (top 7)) := ⟨rfl, rfl, rfl, by decide +kernel, rfl, by decide +kernel, by decide +kernel⟩
theorem kn_is_whole (T : Txt K mg) : Kn P w K mg base CX0 1 "is_whole" ["value"] (spWhole K) := by
  obtain ⟨f, fd, F, hm⟩ := (T.df 0 (p := (7, "is_whole")) rfl)
  refine kn_ok F hm sc_is_whole (fun _ _ _ _ _ _ us hl => match us, hl with | [_], _ => rfl) (fun vs H Q E h => ?_) (fun cdv A outer s H vs Q E hr h => ?_)
  · obtain ⟨v, d, rfl, _⟩ := h
    rfl
  · obtain ⟨v, d, rfl, hd, q⟩ := h
    refine ⟨_, (pss_one (ps_ret (pe_and (pe_callB (cK_isi (K := K) (by rfl)) (by rfl) T.isinstance bt_isinstance (pa_cons (pv 0) (pa_cons (pe_bltn (v := .ty "int") (by rfl) T.int (by decide +kernel) rfl) pa_nil))) (pe_one (pe_not (pe_callB (cK_isi (K := K) (by rfl)) (by rfl) T.isinstance bt_isinstance (pa_cons (pv 0) (pa_cons (pe_bltn (v := .ty "bool") (by rfl) T.bool (by decide +kernel) rfl) pa_nil)))))))), ?_⟩
    exact retA (g_is (g_andV (g_isi (.inl rfl) (g_var rfl rfl) hd) (fun _ => g_notV (g_isi (.inr (.inl rfl)) (g_var rfl rfl) hd))) (by rw [← wholeD_eq])) q rfl
theorem sc_is_within : FnScope ["value", "low", "high"] ["value", "low", "high"] (defScope (top 8)) := ⟨rfl, rfl, rfl, by decide +kernel, rfl, by decide +kernel, by decide +kernel⟩
theorem kn_is_within (T : Txt K mg) (G_is_whole : Kn P w K mg base CX0 1 "is_whole" ["value"] (spWhole K)) : Kn P w K mg base CX0 2 "is_within" ["value", "low", "high"] (spWithin K) := by
  obtain ⟨f, fd, F, hm⟩ := (T.df 1 (p := (8, "is_within")) rfl)
  refine kn_ok F hm sc_is_within (fun _ _ _ _ _ _ us hl => match us, hl with | [_, _, _], _ => rfl) (fun vs H Q E h => ?_) (fun cdv A outer s H vs Q E hr h => ?_)
  · obtain ⟨v, d, lo, hi, rfl, _⟩ := h
    rfl
  · obtain ⟨v, d, lo, hi, rfl, hd, q⟩ := h
    refine ⟨_, (pss_one (ps_ret (pe_and (pe_kn G_is_whole (hr.mono (by decide)) (by rfl) pass0 (pa_cons (pv 0) pa_nil)) (pe_one (pe_chain op_le op_le (pv 1) (pv 0) (pv 2)))))), ?_⟩
    refine retA (g_is (g_andV (q := withinD d lo hi) (g_call (gs_cons (g_vv rfl) gs_nil) (spg_whole hd)) (fun hw => ?_)) (by cases d <;> simp [wholeD, withinD])) q rfl
    cases d with
    | int i =>
      have hv := dr_int hd
      subst hv
      exact g_chain (g_vi (n := lo) rfl) (g_vi (n := i) rfl) rg_le (fun _ => g_vi (n := hi) rfl) (fun _ => rg_le)
    | _ => simp [wholeD] at hw
theorem sc_is_tuple_of : FnScope ["value", "many"] ["value", "many"] (defScope (top 9)) := ⟨rfl, rfl, rfl, by decide +kernel, rfl, by decide +kernel, by decide +kernel⟩
theorem kn_is_tuple_of (T : Txt K mg) : Kn P w K mg base CX0 1 "is_tuple_of" ["value", "many"] (spTupOf K) := by
  obtain ⟨f, fd, F, hm⟩ := (T.df 2 (p := (9, "is_tuple_of")) rfl)
  refine kn_ok F hm sc_is_tuple_of (fun _ _ _ _ _ _ us hl => match us, hl with | [_, _], _ => rfl) (fun vs H Q E h => ?_) (fun cdv A outer s H vs Q E hr h => ?_)
  · obtain ⟨v, d, n, rfl, _⟩ := h
    rfl
  · obtain ⟨v, d, n, rfl, hd, q⟩ := h
    refine ⟨_, (pss_one (ps_ret (pe_and (pe_callB (cK_isi (K := K) (by rfl)) (by rfl) T.isinstance bt_isinstance (pa_cons (pv 0) (pa_cons (pe_bltn (v := .ty "tuple") (by rfl) T.tuple (by decide +kernel) rfl) pa_nil))) (pe_one (pe_cmpR op_eq (pe_callB (cK_len (K := K) (by rfl)) (by rfl) T.len bt_len (pa_cons (pv 0) pa_nil)) (pv 1) (nomark _)))))), ?_⟩
    refine retA (g_is (g_andV (q := tupD d n) (g_isi (.inr (.inr rfl)) (g_var rfl rfl) hd) (fun hw => ?_)) (by cases d <;> simp [isiD, tyName, tupD])) q rfl
    cases d with
    | tuple ds =>
      obtain ⟨a, xs, rfl, h1, h2⟩ := dr_tup hd
      refine g_op (a := .d (.int (ds.length : Int))) (b := .d (.int n)) (g_toD (g_of_ev (by rw [← drAll_len h2]; exact ev_lenT (ev_var rfl) h1))) (g_vi rfl) rg_eqI
    | _ => simp [isiD, tyName] at hw
theorem sc_law_is_int : FnScope ["_law_thing", "_law_low", "_law_high"] ["_law_thing", "_law_low", "_law_high"] (defScope (top 43)) := ⟨rfl, rfl, rfl, by decide +kernel, rfl, by decide +kernel, by decide +kernel⟩
theorem kn_law_is_int (T : Txt K mg) : Kn P w K mg base CX0 1 "_law_is_int" ["_law_thing", "_law_low", "_law_high"] (spWithin K) := by
  obtain ⟨f, fd, F, hm⟩ := (T.df 32 (p := (43, "_law_is_int")) rfl)
  refine kn_ok F hm sc_law_is_int (fun _ _ _ _ _ _ us hl => match us, hl with | [_, _, _], _ => rfl) (fun vs H Q E h => ?_) (fun cdv A outer s H vs Q E hr h => ?_)
  · obtain ⟨v, d, lo, hi, rfl, _⟩ := h
    rfl
  · obtain ⟨v, d, lo, hi, rfl, hd, q⟩ := h
    refine ⟨_, (pss_one (ps_ret (pe_and (pe_callB (cK_isi (K := K) (by rfl)) (by rfl) T.isinstance bt_isinstance (pa_cons (pv 0) (pa_cons (pe_bltn (v := .ty "int") (by rfl) T.int (by decide +kernel) rfl) pa_nil))) (pe_and (pe_not (pe_callB (cK_isi (K := K) (by rfl)) (by rfl) T.isinstance bt_isinstance (pa_cons (pv 0) (pa_cons (pe_bltn (v := .ty "bool") (by rfl) T.bool (by decide +kernel) rfl) pa_nil)))) (pe_one (pe_chain op_le op_le (pv 1) (pv 0) (pv 2))))))), ?_⟩
    refine retA (g_is (g_andV (q := !isiD d "bool" && withinD d lo hi) (g_isi (.inl rfl) (g_var rfl rfl) hd) (fun hw => g_andV (g_notV (g_isi (.inr (.inl rfl)) (g_var rfl rfl) hd)) (fun hw2 => ?_))) (by cases d <;> simp [isiD, tyName, withinD])) q rfl
    cases d with
    | int i =>
      have hv := dr_int hd
      subst hv
      exact g_chain (g_vi (n := lo) rfl) (g_vi (n := i) rfl) rg_le (fun _ => g_vi (n := hi) rfl) (fun _ => rg_le)
    | bool b => simp [isiD, tyName] at hw2
    | _ => simp [isiD, tyName] at hw
end
end Nk
/-! ## W5: has_form, breaks, net_fault -/
namespace Nk
open PySem PySem.Spec PyProof.Rows L2 Evl

section
variable {P : Program} {w : World} {K : PySem.W.Frag} {mg : Str → Option Value} {base : Heap}
theorem sc_has_form : FnScope ["value", "many", "change", "flag"] ["value"] (defScope (top 12)) := ⟨rfl, rfl, rfl, by decide +kernel, rfl, by decide +kernel, by decide +kernel⟩
theorem kn_has_form (T : Txt K mg) (G_is_tuple_of : Kn P w K mg base CX0 1 "is_tuple_of" ["value", "many"] (spTupOf K)) (G_is_within : Kn P w K mg base CX0 2 "is_within" ["value", "low", "high"] (spWithin K)) : Kn P w K mg base CX0 3 "has_form" ["value"] (spForm K) := by
  obtain ⟨f, fd, F, hm⟩ := (T.df 3 (p := (12, "has_form")) rfl)
  obtain ⟨tk, hMost⟩ := T.most
  refine kn_ok F hm sc_has_form (fun _ _ _ _ _ _ us hl => match us, hl with | [_], _ => rfl) (fun vs H Q E h => ?_) (fun cdv A outer s H vs Q E hr h => ?_)
  · obtain ⟨v, s, rfl, _⟩ := h
    rfl
  · obtain ⟨v, s, rfl, hN, hf, q⟩ := h
    refine ⟨_, (pss_cons (ps_if (PW.pt (pw_or (pt_not (pt_val (pe_kn G_is_tuple_of (hr.mono (by decide)) (by rfl) pass0 (pa_cons (pv 0) (pa_cons pe_int pa_nil))))) (pw_or1 (pt_not (pt_val (pe_callB (cK_isi (K := K) (by rfl)) (by rfl) T.isinstance bt_isinstance (pa_cons (pe_ix (ixK_tup (K := K) (by rfl)) (pv 0) pe_int (fun _ _ => rfl)) (pa_cons (pe_bltn (v := .ty "tuple") (by rfl) T.tuple (by decide +kernel) rfl) pa_nil))))))))
  (pss_one (ps_ret pe_bl))
  pss_nil)
  (pss_cons (ps_set (i := 1) sc_has_form.nd rfl (Or.inr rfl) (pe_callB (cK_len (K := K) (by rfl)) (by rfl) T.len bt_len (pa_cons (pe_ix (ixK_tup (K := K) (by rfl)) (pv 0) pe_int (fun _ _ => rfl)) pa_nil)))
  (pss_cons (ps_if (PW.pt (pw_or (pt_cmpR op_lt (pv 1) pe_int (nomark _)) (pw_or1 (pt_cmpR op_gt (pv 1) (pe_glob (v := .int 960) rfl hMost ⟨_, rfl⟩) (nomark _)))))
  (pss_one (ps_ret pe_bl))
  pss_nil)
  (pss_cons (ps_for PassesOwn.never rfl (piK_tup (K := K) (by rfl) (pv 0)) (pg_name (i := 2) sc_has_form.nd rfl (by first | exact Or.inl rfl | exact Or.inr rfl))
  (pss_cons (ps_if (pt_not (pt_val (pe_kn G_is_tuple_of (hr.mono (by decide)) (by rfl) pass0 (pa_cons (pv 2) (pa_cons (pv 1) pa_nil)))))
  (pss_one (ps_ret pe_bl))
  pss_nil)
  (pss_one (ps_if (pt_not (pt_val (pe_callB (cK_all (K := K) (by rfl) rfl) (by rfl) T.all bt_all (pa_cons (pe_lc (own := [("flag", 3)]) (g := (gName 3)) (by rfl) sc_has_form.nd (piK_tup (K := K) (by rfl) (pv 2)) (blkOk_by (by kernel_rfl)) (fun _ _ _ _ _ => (pg_name (i := 3) sc_has_form.nd rfl (by first | exact Or.inl rfl | exact Or.inr rfl))) (fun _ _ _ _ _ => pts_nil) (fun _ _ _ _ _ => (pe_kn G_is_within (hr.mono (by decide)) (by rfl) pass0 (pa_cons (pv 3) (pa_cons pe_int (pa_cons (pe_op op_sub (pv 1) pe_int) pa_nil)))))) pa_nil))))
  (pss_one (ps_ret pe_bl))
  pss_nil))))
  (pss_one (ps_ret pe_bl)))))), ?_⟩
    have tup : ∀ {σ : L2.St} {H1 : Hp} {te tn : TE} {E : XK} {ds : List PyData} {n : Int}, EvG K te σ H1 (.d (.tuple ds)) → EvG K tn σ H1 (.d (.int n)) → EvT (tTest (tCall (spTupOf K) [] E (tCons te (tCons tn tNil)))) σ H1 (decide ((ds.length : Int) = n)) := fun {σ H1 te tn E ds n} h1 h2 => et_of fun H2 e2 Q q => h1 H2 e2 _ fun v H3 e3 hv => h2 H3 (e2.trans e3) _ fun u H4 e4 hu => by
      cases Dp.int_eq hu
      exact ⟨v, .tuple ds, n, rfl, .dp (Dp.mono hv e4), fun w H5 e5 hw => q w H5 ((e3.trans e4).trans e5) hw⟩
    have hvn : ∀ {y1 y2 y3 : Option V} {H1 : Hp}, Ex H H1 → EvG K (tVar 0) [some v, y1, y2, y3] H1 (.d (encNet s)) := fun e => g_var rfl (hN.mono e)
    by_cases h3 : s.length = 3
    · obtain ⟨n, F, h4, h960⟩ : ∃ n, Form n s ∧ 4 ≤ n ∧ n ≤ 960 := hf.resolve_left fun z => z h3
      rw [h3] at q
      obtain ⟨s0, hs0, hg0, hl0, hm0⟩ := F.get (c := 0) (by omega)
      refine q_when (b := false) (et_is (et_or (et_not (tup (hvn (Ex.refl H)) (g_int (i := 3)))) (b := false) fun _ => ?_) (by rw [List.length_map, h3]; rfl)) (fun hb => by cases hb) (fun _ H1 e1 => ?_)
      · refine et_is (et_not (et_of (K := K) (b := true) fun H1 e1 Q q => ?_)) rfl
        refine (g_ixT (i := 0) (hvn (Ex.refl H)) g_int (encNet_get hs0)) H1 e1 _ fun x H2 e2 hx => ?_
        have hx : Dp K H2 x (encR s0) := hx
        exact ⟨x, .ty "tuple", .type "tuple", .type "tuple", true, rfl, .ty _, tyx_of (.dp hx), kit_ty (kitB_of (encR s0) "tuple" (.inr (.inr rfl))), q _ H2 e2 (.bl _)⟩
      refine asgI (n := n) (g_len0 F (hvn e1)) fun H2 e2 => ?_
      refine q_when (b := false) (et_is (et_or (et_of (K := K) (g_op (g_vi (n := (n : Int)) rfl) (g_int (i := 4)) rg_lt)) fun _ => et_of (K := K) (g_op (g_vi (n := (n : Int)) rfl) (g_toD (i := 960) g_c) rg_gt)) (by simp; omega)) (fun hb => by cases hb) (fun _ H3 e3 => ?_)
      refine q_forTd (H0 := H) (v := v) (ev_var rfl) ((e1.trans e2).trans e3) hN (fun i σ H' => ∃ y2, σ = [some v, some (nv n), y2, none] ∧ Ex H H') (fun H4 e4 => ⟨none, rfl, ((e1.trans e2).trans e3).trans e4⟩) (fun i σ H' hP => let ⟨_, _, e⟩ := hP; e) (fun i x d σ H' hd hx hP => ?_) (fun σ H' hP => ?_)
      · obtain ⟨y2, rfl, e⟩ := hP
        obtain ⟨ch, hch, rfl⟩ := encNet_of hd
        have hcm := List.mem_of_getElem? hch
        have hcl := F.len _ hcm
        refine q_when (b := false) (et_is (et_not (tup (g_var rfl hx) (g_vi (n := (n : Int)) rfl))) (by rw [List.length_map, hcl]; simp)) (fun hb => by cases hb) (fun _ H4 e4 => ?_)
        refine s_when (b := false) (et_is (et_not (et_of (K := K) (g_all (bs := ch.map fun _ => true) (g_is (g_lcT (ds := ch.map encN) (fun _ => true) (fun _ => .bool true) (g_var rfl (show Is K H4 x (.d (encR ch)) from hx.mono e4)) (by rw [List.length_map]; omega) (fun _ => rfl) (fun _ => rfl) (fun i x d H1 e1 hd hx => et_yes)
          (fun k z d H5 e5 hd hz _ => ?_)) ?_)))) (by simp)) (fun hb => by cases hb) (fun _ H5 e5 => ⟨_, rfl, (e.trans e4).trans e5⟩)
        · obtain ⟨t, ht, rfl⟩ := encR_of hd
          have htn : t < n := F.lt _ hcm _ (List.mem_of_getElem? ht)
          refine g_is (g_call (gs_cons (g_vv rfl) (gs_cons g_int (gs_cons (g_op (g_vi (n := (n : Int)) rfl) g_int rg_sub) gs_nil))) (spg_within (d := encN t) (.dp hz))) ?_
          simp [withinD, encN]
          omega
        · rw [List.length_map, List.map_map]
          exact congrArg (fun l => Nk.A.d (.list l)) (givenD_all fun k z hz => rfl)
      · obtain ⟨y2, rfl, e⟩ := hP
        exact retA (K := K) g_bl (fun v H5 e5 hv => q v H5 (e.trans e5) hv) rfl
    · have e3 : decide (s.length = 3) = false := decide_eq_false h3
      rw [e3] at q
      refine q_when (b := true) (et_is (et_or (et_is (et_not (tup (hvn (Ex.refl H)) (g_int (i := 3)))) (b := true) ?_) (b := true) fun z => by cases z) rfl) (fun _ H1 e1 => ?_) (fun hb => by cases hb)
      · rw [List.length_map]
        simp
        omega
      · exact retA (K := K) g_bl (fun v H5 e5 hv => q v H5 (e1.trans e5) hv) rfl
theorem sc_breaks : FnScope ["net", "rule", "flag", "across", "change"] ["net", "rule", "flag"] (defScope (top 13)) := ⟨rfl, rfl, rfl, by decide +kernel, rfl, by decide +kernel, by decide +kernel⟩
theorem kn_breaks (T : Txt K mg) : Kn P w K mg base CX0 1 "breaks" ["net", "rule", "flag"] (spBreaks K) := by
  obtain ⟨f, fd, F, hm⟩ := (T.df 4 (p := (13, "breaks")) rfl)
  refine kn_ok F hm sc_breaks (fun _ _ _ _ _ _ us hl => match us, hl with | [_, _, _], _ => rfl) (fun vs H Q E h => ?_) (fun cdv A outer s H vs Q E hr h => ?_)
  · obtain ⟨v, n, s, r, f, rfl, _⟩ := h
    rfl
  · obtain ⟨v, n, s, r, f, rfl, hN, F, hn, hf, q⟩ := h
    refine ⟨_, (pss_cons (ps_if (pt_cmpR op_eq (pv 1) pe_str (nomark _))
  (pss_one (ps_ret (pe_callB (cK_any (K := K) (by rfl) rfl) (by rfl) T.any bt_any (pa_cons (pe_lc (own := [("change", 4)]) (g := (gName 4)) (by rfl) sc_breaks.nd (piK_tup (K := K) (by rfl) (pv 0)) (blkOk_by (by kernel_rfl)) (fun _ _ _ _ _ => (pg_name (i := 4) sc_breaks.nd rfl (by first | exact Or.inl rfl | exact Or.inr rfl))) (fun _ _ _ _ _ => pts_nil) (fun _ _ _ _ _ => (pe_cmpR op_ne (pe_ix (ixK_tup (K := K) (by rfl)) (pv 4) (pe_ix (ixK_tup (K := K) (by rfl)) (pv 4) (pv 2) (fun _ _ => rfl)) (fun _ _ => rfl)) (pv 2) (nomark _)))) pa_nil))))
  pss_nil)
  (pss_cons (ps_if (pt_cmpR op_eq (pv 1) pe_str (nomark _))
  (pss_one (ps_ret (pe_callB (cK_any (K := K) (by rfl) rfl) (by rfl) T.any bt_any (pa_cons (pe_lc (own := [("change", 4)]) (g := (gName 4)) (by rfl) sc_breaks.nd (piK_tup (K := K) (by rfl) (pv 0)) (blkOk_by (by kernel_rfl)) (fun _ _ _ _ _ => (pg_name (i := 4) sc_breaks.nd rfl (by first | exact Or.inl rfl | exact Or.inr rfl))) (fun _ _ _ _ _ => pts_nil) (fun _ _ _ _ _ => (pe_cmpR op_eq (pe_ix (ixK_tup (K := K) (by rfl)) (pv 4) (pv 2) (fun _ _ => rfl)) (pv 2) (nomark _)))) pa_nil))))
  pss_nil)
  (pss_cons (ps_set (i := 3) sc_breaks.nd rfl (Or.inl rfl) (pe_ix (ixK_tup (K := K) (by rfl)) (pe_ix (ixK_tup (K := K) (by rfl)) (pv 0) pe_int (fun _ _ => rfl)) (pe_ix (ixK_tup (K := K) (by rfl)) (pe_ix (ixK_tup (K := K) (by rfl)) (pv 0) pe_int (fun _ _ => rfl)) (pv 2) (fun _ _ => rfl)) (fun _ _ => rfl)))
  (pss_cons (ps_if (pt_cmpR op_eq (pv 1) pe_str (nomark _))
  (pss_one (ps_ret (pe_cmpR op_ne (pv 3) (pe_ix (ixK_tup (K := K) (by rfl)) (pe_ix (ixK_tup (K := K) (by rfl)) (pv 0) pe_int (fun _ _ => rfl)) (pe_ix (ixK_tup (K := K) (by rfl)) (pe_ix (ixK_tup (K := K) (by rfl)) (pv 0) pe_int (fun _ _ => rfl)) (pv 2) (fun _ _ => rfl)) (fun _ _ => rfl)) (nomark _))))
  pss_nil)
  (pss_one (ps_ret (pe_cmpR op_eq (pv 3) (pv 2) (nomark _)))))))), ?_⟩
    have hr' : ∀ {y3 y4 : Option V} {H1 : Hp} {x : Str}, EvT (tTest (tOp rEq (tVar 1) (tC (.str x)))) [some v, some (.str r), some (nv f), y3, y4] H1 (decide (r = x)) := fun {y3 y4 H1 x} => et_of (K := K) (g_op (a := .d (.str r)) (g_var rfl (.str r)) g_str rg_eqS)
    have ix : ∀ {y3 y4 : Option V} {H1 : Hp} {c : Nat} {te : TE} {z : Nat}, Ex H H1 → c < 3 → EvG K te [some v, some (.str r), some (nv f), y3, y4] H1 (.d (encN z)) → z < n → EvG K (tOp (rIxT K) (tOp (rIxT K) (tVar 0) (tC (.int c))) te) [some v, some (.str r), some (nv f), y3, y4] H1 (.d (encN (ap s c z))) := fun {y3 y4 H1 c te z} e hc h hz => by
      obtain ⟨ch, hch, hg, hl, hcm⟩ := F.get hc
      obtain ⟨t, ht, ht2, _⟩ := F.row hcm hz
      have : ap s c z = t := by unfold ap; rw [hg, ht2]
      rw [this]
      exact g_ixT (i := z) (g_ixT (i := c) (g_var rfl (show Is K H1 v (.d (encNet s)) from hN.mono e)) g_int (encNet_get hch)) h (encR_get ht)
    have row : ∀ {H1 : Hp} {t te : TE} {D : Nat → Bool}, True := trivial
    have hbk : ∀ x : Str, r = x → brk s x f = brk s r f := fun x e => by rw [e]
    refine q_when hr' (fun hb H1 e1 => ?_) (fun hb H1 e1 => ?_)
    · have hb := of_decide_eq_true hb
      refine retA (K := K) (g_is (g_any (bs := s.map fun ch => !decide (ch.getD (ch.getD f 0) 0 = f)) (g_is (g_lcT (ds := s.map encR) (fun _ => true) (fun i => .bool (!decide ((s.getD i []).getD ((s.getD i []).getD f 0) 0 = f))) (g_var rfl (show Is K H1 v (.d (encNet s)) from hN.mono e1)) (by rw [List.length_map, F.three]; omega) (fun _ => rfl) (fun _ => rfl) (fun i x d H1 e1 hd hx => et_yes)
        (fun k z d H5 e5 hd hz _ => ?_)) ?_)) ?_) (fun v H5 e5 hv => q v H5 (e1.trans e5) hv) rfl
      · obtain ⟨ch, hch, rfl⟩ := encNet_of hd
        have hcm := List.mem_of_getElem? hch
        rw [show s.getD k [] = ch by rw [List.getD_eq_getElem?_getD, hch]; rfl]
        obtain ⟨t, ht, ht2, htn⟩ := F.row hcm hf
        obtain ⟨t', ht', ht2', _⟩ := F.row hcm htn
        rw [ht2, ht2']
        have hvz : EvG K (tVar 4) _ H5 (.d (encR ch)) := g_var (σ := [some v, some (.str r), some (nv f), none, some z]) rfl hz
        refine g_is (g_op (a := .d (.int (t' : Int))) (b := .d (.int (f : Int))) (g_ixT (i := t) hvz (g_ixT (i := f) hvz (g_vn rfl) (encR_get ht)) (encR_get ht')) (g_vn rfl) rg_neI) ?_
        congr 3
        simp
        omega
      · rw [List.length_map, List.map_map]
        congr 2
        exact givenD_all fun k ch hch => by
          show PyData.bool (!decide ((s.getD k []).getD ((s.getD k []).getD f 0) 0 = f)) = _
          rw [show s.getD k [] = ch by rw [List.getD_eq_getElem?_getD, hch]; rfl]
          rfl
      · congr 2
        subst hb
        simp [brk, List.any_map, Function.comp_def]
    have hb := of_decide_eq_false hb
    refine q_when hr' (fun hb2 H2 e2 => ?_) (fun hb2 H2 e2 => ?_)
    · have hb2 := of_decide_eq_true hb2
      refine retA (K := K) (g_is (g_any (bs := s.map fun ch => decide (ch.getD f 0 = f)) (g_is (g_lcT (ds := s.map encR) (fun _ => true) (fun i => .bool (decide ((s.getD i []).getD f 0 = f))) (g_var rfl (show Is K H2 v (.d (encNet s)) from hN.mono (e1.trans e2))) (by rw [List.length_map, F.three]; omega) (fun _ => rfl) (fun _ => rfl) (fun i x d H1 e1 hd hx => et_yes)
        (fun k z d H5 e5 hd hz _ => ?_)) ?_)) ?_) (fun v H5 e5 hv => q v H5 ((e1.trans e2).trans e5) hv) rfl
      · obtain ⟨ch, hch, rfl⟩ := encNet_of hd
        have hcm := List.mem_of_getElem? hch
        rw [show s.getD k [] = ch by rw [List.getD_eq_getElem?_getD, hch]; rfl]
        obtain ⟨t, ht, ht2, htn⟩ := F.row hcm hf
        rw [ht2]
        have hvz : EvG K (tVar 4) _ H5 (.d (encR ch)) := g_var (σ := [some v, some (.str r), some (nv f), none, some z]) rfl hz
        refine g_is (g_op (a := .d (.int (t : Int))) (b := .d (.int (f : Int))) (g_ixT (i := f) hvz (g_vn rfl) (encR_get ht)) (g_vn rfl) rg_eqI) ?_
        congr 2
        simp
        omega
      · rw [List.length_map, List.map_map]
        congr 2
        exact givenD_all fun k ch hch => by
          show PyData.bool (decide ((s.getD k []).getD f 0 = f)) = _
          rw [show s.getD k [] = ch by rw [List.getD_eq_getElem?_getD, hch]; rfl]
          rfl
      · congr 2
        subst hb2
        simp [brk, List.any_map, Function.comp_def]
        intro z
        exact absurd z (by decide)
    have hb2 := of_decide_eq_false hb2
    refine asg (ix (c := 2) (e1.trans e2) (by omega) (ix (c := 0) (e1.trans e2) (by omega) (g_vn rfl) hf) (F.at (by omega) hf)) fun x H3 e3 hx => ?_
    cases Dp.int_eq hx
    refine q_when hr' (fun hb3 H4 e4 => ?_) (fun hb3 H4 e4 => ?_)
    · have hb3 := of_decide_eq_true hb3
      refine retA (K := K) (g_is (g_op (a := .d (.int (ap s 2 (ap s 0 f) : Int))) (b := .d (.int (ap s 0 (ap s 2 f) : Int))) (g_vi rfl) (ix (c := 0) (((e1.trans e2).trans e3).trans e4) (by omega) (ix (c := 2) (((e1.trans e2).trans e3).trans e4) (by omega) (g_vn rfl) hf) (F.at (by omega) hf)) rg_neI) ?_) (fun v H5 e5 hv => q v H5 ((((e1.trans e2).trans e3).trans e4).trans e5) hv) rfl
      unfold brk
      rw [if_neg hb, if_neg hb2, if_pos hb3]
      congr 3
      simp
      omega
    · have hb3 := of_decide_eq_false hb3
      refine retA (K := K) (g_is (g_op (a := .d (.int (ap s 2 (ap s 0 f) : Int))) (b := .d (.int (f : Int))) (g_vi rfl) (g_vn rfl) rg_eqI) ?_) (fun v H5 e5 hv => q v H5 ((((e1.trans e2).trans e3).trans e4).trans e5) hv) rfl
      unfold brk
      rw [if_neg hb, if_neg hb2, if_neg hb3]
      congr 2
      simp
      omega
theorem find_none_of {α : Type} {p : α → Bool} {l : List α} (h : ∀ x ∈ l, p x = false) : l.find? p = none := List.find?_eq_none.mpr fun x hx => by rw [h x hx]; exact fun z => by cases z
theorem find_range {p : Nat → Bool} {n i : Nat} (hi : i < n) (h : ∀ j < i, p j = false) (hp : p i = true) : (List.range n).find? p = some i := by
  have e : List.range n = List.range i ++ (List.range (n - i)).map (i + ·) := by
    have := List.range_add (n := i) (m := n - i)
    rwa [show i + (n - i) = n by omega] at this
  rw [e, List.find?_append, find_none_of fun x hx => h x (List.mem_range.mp hx)]
  rw [show n - i = (n - i - 1) + 1 by omega, List.range_succ_eq_map, List.map_cons, List.find?_cons_of_pos (by simpa using hp)]
  rfl
theorem sc_net_fault : FnScope ["value", "rule", "flag"] ["value"] (defScope (top 14)) := ⟨rfl, rfl, rfl, by decide +kernel, rfl, by decide +kernel, by decide +kernel⟩
theorem kn_net_fault (T : Txt K mg) (G_has_form : Kn P w K mg base CX0 3 "has_form" ["value"] (spForm K)) (G_breaks : Kn P w K mg base CX0 1 "breaks" ["net", "rule", "flag"] (spBreaks K)) : Kn P w K mg base CX0 4 "net_fault" ["value"] (spFault K) := by
  obtain ⟨f, fd, F, hm⟩ := (T.df 5 (p := (14, "net_fault")) rfl)
  refine kn_ok F hm sc_net_fault (fun _ _ _ _ _ _ us hl => match us, hl with | [_], _ => rfl) (fun vs H Q E h => ?_) (fun cdv A outer s H vs Q E hr h => ?_)
  · obtain ⟨v, s, d, rfl, _⟩ := h
    rfl
  · obtain ⟨v, s, d, rfl, hN, hf, q⟩ := h
    refine ⟨_, (pss_cons (ps_if (pt_not (pt_val (pe_kn G_has_form (hr.mono (by decide)) (by rfl) pass0 (pa_cons (pv 0) pa_nil))))
  (pss_one (ps_ret (pe_tup (pa_cons pe_str (pa_cons pe_non pa_nil)))))
  pss_nil)
  (pss_cons (ps_for PassesOwn.never rfl (piK_tup (K := K) (by rfl) (pe_tup (pa_cons pe_str (pa_cons pe_str (pa_cons pe_str (pa_cons pe_str pa_nil)))))) (pg_name (i := 1) sc_net_fault.nd rfl (by first | exact Or.inl rfl | exact Or.inr rfl))
  (pss_one (ps_for PassesOwn.never rfl (pi_range1 rfl T.range (pa_cons (pe_callB (cK_len (K := K) (by rfl)) (by rfl) T.len bt_len (pa_cons (pe_ix (ixK_tup (K := K) (by rfl)) (pv 0) pe_int (fun _ _ => rfl)) pa_nil)) pa_nil)) (pg_name (i := 2) sc_net_fault.nd rfl (by first | exact Or.inl rfl | exact Or.inr rfl))
  (pss_one (ps_if (pt_val (pe_kn G_breaks (hr.mono (by decide)) (by rfl) pass0 (pa_cons (pv 0) (pa_cons (pv 1) (pa_cons (pv 2) pa_nil)))))
  (pss_one (ps_ret (pe_tup (pa_cons (pv 1) (pa_cons (pv 2) pa_nil)))))
  pss_nil)))))
  (pss_one (ps_ret pe_non)))), ?_⟩
    have form : ∀ {y1 y2 : Option V} {E : XK}, (s.length ≠ 3 ∨ ∃ n, Form n s ∧ 4 ≤ n ∧ n ≤ 960) → EvT (tTest (tCall (spForm K) [] E (tCons (tVar 0) tNil))) [some v, y1, y2] H (decide (s.length = 3)) := fun {y1 y2 E} hh => et_of (K := K) fun H2 e2 Q q => ⟨v, rfl, v, s, rfl, hN.mono e2, hh, q⟩
    rcases hf with ⟨h3, rfl⟩ | ⟨n, F, h4, h960, rfl⟩
    · refine q_when (b := true) (et_is (et_not (form (.inl h3))) (by rw [decide_eq_false h3]; rfl)) (fun _ H1 e1 => ?_) (fun hb => by cases hb)
      exact retA (K := K) (g_tup (ds := [.str "form", .none]) (gs_cons g_str (gs_cons g_non gs_nil)) (by show 2 ≤ 100000; omega)) (fun v H5 e5 hv => q v H5 (e1.trans e5) hv) rfl
    · refine q_when (b := false) (et_is (et_not (form (.inr ⟨n, F, h4, h960⟩))) (by rw [decide_eq_true F.three]; rfl)) (fun hb => by cases hb) (fun _ H1 e1 => ?_)
      refine q_forGt (K := K) (ds := rules.map .str) (g_tup (gs_cons g_str (gs_cons g_str (gs_cons g_str (gs_cons g_str gs_nil)))) (by show 4 ≤ 100000; omega)) (fun H2 i σ H' => ∃ y1 y2, σ = [some v, y1, y2] ∧ Ex H2 H' ∧ ∀ j r, j < i → rules[j]? = some r → ruleFault s n r = none)
        (fun H2 e2 => ⟨none, none, rfl, Ex.refl H2, fun j r hj => by omega⟩) (fun H2 i σ H' hP => let ⟨_, _, _, e, _⟩ := hP; e) (fun H2 i x d σ H' e2 hd hxd hP => ?_) (fun H2 σ H' e2 hP => ?_)
      · obtain ⟨y1, y2, rfl, e, hb⟩ := hP
        · rw [List.getElem?_map] at hd
          obtain ⟨r, hr', rfl⟩ := Option.map_eq_some_iff.mp hd
          cases Dp.str_eq hxd
          have eH := (e1.trans e2).trans e
          refine s_forR1 (n := n) (ea_cons (g_ev (g_toV (g_len0 F (g_var rfl (show Is K H' v (.d (encNet s)) from hN.mono eH))))) ea_nil) (by omega) (fun k σ H4 => ∃ y2, σ = [some v, some (.str r), y2] ∧ Ex H' H4 ∧ ∀ j < k, brk s r j = false)
            (fun H3 e3 => ⟨y2, rfl, e3, fun j hj => by omega⟩) (fun k σ H4 hk hP => ?_) (fun σ H4 hP => ?_)
          · obtain ⟨y2, rfl, e4, hb4⟩ := hP
            have hkn : k < n := by omega
            refine s_when (b := brk s r k) (et_of (K := K) fun H5 e5 Q q => ⟨v, rfl, .str r, rfl, nv k, rfl, v, n, s, r, k, rfl, hN.mono ((eH.trans e4).trans e5), F, by omega, hkn, q⟩) (fun hb H5 e5 => ?_) (fun hb H5 e5 => ?_)
            · refine retA (K := K) (g_tup (ds := [.str r, encN k]) (gs_cons (g_var rfl (.str r)) (gs_cons (g_vn rfl) gs_nil)) (by show 2 ≤ 100000; omega)) (fun v H6 e6 hv => q v H6 ((((eH.trans e4).trans e5).trans e6)) ?_) rfl
              have hrf : ruleFault s n r = some k := find_range hkn hb4 hb
              have : rules.findSome? (fun r => (ruleFault s n r).map fun f => (r, f)) = some (r, k) := by
                have hil : i < rules.length := (List.getElem?_eq_some_iff.mp hr').1
                have h1 : rules = rules.take i ++ rules.drop i := (List.take_append_drop i rules).symm
                rw [h1, List.findSome?_append]
                have h2 : (rules.take i).findSome? (fun r => (ruleFault s n r).map fun f => (r, f)) = none := by
                  rw [List.findSome?_eq_none_iff]
                  intro r' hr2
                  obtain ⟨j, hj, he⟩ := List.mem_iff_getElem.mp hr2
                  rw [List.length_take] at hj
                  rw [List.getElem_take] at he
                  rw [‹∀ j r, j < i → rules[j]? = some r → ruleFault s n r = none› j r' (by omega) (by rw [← he]; exact List.getElem?_eq_getElem _)]
                  rfl
                rw [h2]
                have h3 : rules.drop i = r :: rules.drop (i + 1) := by
                  rw [List.drop_eq_getElem_cons hil]
                  congr 1
                  rw [List.getElem?_eq_getElem hil] at hr'
                  exact Option.some.inj hr'
                rw [h3, List.findSome?_cons, hrf]
                rfl
              unfold faultD
              rw [this]
              exact hv
            · exact ⟨some (nv k), rfl, e4.trans e5, fun j hj => by
                rcases Nat.lt_or_ge j k with h | h
                · exact hb4 j h
                · rw [show j = k by omega]; exact hb⟩
          · obtain ⟨y2, rfl, e4, hb4⟩ := hP
            refine ⟨_, _, rfl, e.trans e4, fun j r' hj hr2 => ?_⟩
            rcases Nat.lt_or_ge j i with h | h
            · exact hb j r' h hr2
            · have : j = i := by omega
              subst this
              rw [hr'] at hr2
              cases hr2
              exact find_none_of fun x hx => hb4 x (by have := List.mem_range.mp hx; omega)
      · obtain ⟨y1, y2, rfl, e, hb⟩ := hP
        · refine retA (K := K) g_non (fun v H5 e5 hv => q v H5 (((e1.trans e2).trans e).trans e5) ?_) rfl
          have : rules.findSome? (fun r => (ruleFault s n r).map fun f => (r, f)) = none := by
            rw [List.findSome?_eq_none_iff]
            intro r hr
            obtain ⟨j, hj⟩ := List.mem_iff_getElem?.mp hr
            rw [hb j r (by have := (List.getElem?_eq_some_iff.mp hj).1; rw [List.length_map]; exact this) hj]
            rfl
          unfold faultD
          rw [this]
          exact hv
end
end Nk
/-! ## M2: the walk over two nets, as a list of pairs -/
namespace Nk
open PySem PySem.Spec PyProof.Rows L2 Evl

def mt1 (ps : List (Nat × Nat)) (a b : Nat) : Option (List (Nat × Nat)) := match lk ps a with
  | none => some (ps ++ [(a, b)])
  | some d => if d = b then some ps else none
def mtv (s t : Net) (x y : Nat) (ps : List (Nat × Nat)) : Nat → Option (List (Nat × Nat))
  | 0 => some ps
  | k + 1 => (mtv s t x y ps k).bind fun q => mt1 q (ap s k x) (ap t k y)
def mtGo (s t : Net) : Nat → List (Nat × Nat) → Nat → Option (List (Nat × Nat))
  | 0, ps, _ => some ps
  | k + 1, ps, i => match ps[i]? with
    | none => some ps
    | some p => (mtv s t p.1 p.2 ps 3).bind fun q => mtGo s t k q (i + 1)
def mtch (s t : Net) (n x y : Nat) : Option (List (Nat × Nat)) := mtGo s t n [(x, y)] 0
structure MOk (n m : Nat) (ps : List (Nat × Nat)) : Prop where
  nd : (ps.map (·.1)).Nodup
  lt : ∀ p ∈ ps, p.1 < n ∧ p.2 < m
theorem MOk.len {n m : Nat} {ps : List (Nat × Nat)} (h : MOk n m ps) : ps.length ≤ n := by
  have := nodup_le (n := n) h.nd fun x hx => by
    obtain ⟨p, hp, rfl⟩ := List.mem_map.mp hx
    exact (h.lt p hp).1
  rwa [List.length_map] at this
theorem mt1_new {ps : List (Nat × Nat)} {a b : Nat} (h : lk ps a = none) : mt1 ps a b = some (ps ++ [(a, b)]) := by
  unfold mt1
  rw [h]
theorem mt1_old {ps : List (Nat × Nat)} {a b d : Nat} (h : lk ps a = some d) : mt1 ps a b = if d = b then some ps else none := by
  unfold mt1
  rw [h]
theorem mt1_ok {n m a b : Nat} {ps q : List (Nat × Nat)} (h : MOk n m ps) (ha : a < n) (hb : b < m) (e : mt1 ps a b = some q) : MOk n m q ∧ ∃ t, q = ps ++ t := by
  cases hl : lk ps a with
  | none =>
    rw [mt1_new hl] at e
    cases e
    refine ⟨⟨?_, fun p hp => ?_⟩, _, rfl⟩
    · rw [List.map_append]
      exact List.nodup_append.mpr ⟨h.nd, by simp, fun x hx y hy => by
        have : y = a := by simpa using hy
        subst this
        exact fun z => (lk_none.mp hl) (z ▸ hx)⟩
    · rcases List.mem_append.mp hp with hp | hp
      · exact h.lt p hp
      · have : p = (a, b) := by simpa using hp
        subst this
        exact ⟨ha, hb⟩
  | some d =>
    rw [mt1_old hl] at e
    by_cases hd : d = b
    · rw [if_pos hd] at e
      cases e
      exact ⟨h, [], (List.append_nil _).symm⟩
    · rw [if_neg hd] at e
      cases e
theorem mtv_ok {n m x y : Nat} {s t : Net} (F : Form n s) (G : Form m t) (hx : x < n) (hy : y < m) {ps : List (Nat × Nat)} (h : MOk n m ps) : ∀ {k : Nat} {q : List (Nat × Nat)}, k ≤ 3 → mtv s t x y ps k = some q → MOk n m q ∧ ∃ r, q = ps ++ r
  | 0, q, _, e => by
    cases e
    exact ⟨h, [], (List.append_nil _).symm⟩
  | k + 1, q, hk, e => by
    obtain ⟨q', e1, e2⟩ := Option.bind_eq_some_iff.mp e
    obtain ⟨h1, r1, rfl⟩ := mtv_ok F G hx hy h (by omega) e1
    obtain ⟨h2, r2, rfl⟩ := mt1_ok h1 (F.at (by omega) hx) (G.at (by omega) hy) e2
    exact ⟨h2, r1 ++ r2, by rw [List.append_assoc]⟩
theorem mtv_none {s t : Net} {x y k : Nat} {ps : List (Nat × Nat)} (h : mtv s t x y ps k = none) : ∀ j, mtv s t x y ps (k + j) = none
  | 0 => h
  | j + 1 => by
    show (mtv s t x y ps (k + j)).bind _ = none
    rw [mtv_none h j]
    rfl
theorem mtGo_stop {s t : Net} {ps : List (Nat × Nat)} {i : Nat} (h : ps.length ≤ i) : ∀ k, mtGo s t k ps i = some ps
  | 0 => rfl
  | k + 1 => by
    show (match ps[i]? with | none => some ps | some p => _) = some ps
    rw [List.getElem?_eq_none h]
theorem mtGo_go {s t : Net} {ps : List (Nat × Nat)} {i k : Nat} {p : Nat × Nat} (h : ps[i]? = some p) : mtGo s t (k + 1) ps i = (mtv s t p.1 p.2 ps 3).bind fun q => mtGo s t k q (i + 1) := by
  show (match ps[i]? with | none => some ps | some p => _) = _
  rw [h]
theorem lk_at {n m : Nat} {ps : List (Nat × Nat)} (h : MOk n m ps) {i : Nat} {p : Nat × Nat} (hp : ps[i]? = some p) : lk ps p.1 = some p.2 := by
  have hd := h.nd
  clear h
  induction ps generalizing i with
  | nil => simp at hp
  | cons a ps ih =>
    unfold lk
    rw [List.map_cons] at hd
    cases i with
    | zero =>
      cases hp
      rw [List.find?_cons_of_pos (by simp)]
      rfl
    | succ i =>
      have hp : ps[i]? = some p := hp
      have hne : ¬ a.1 = p.1 := fun e => (List.nodup_cons.mp hd).1 (e ▸ List.mem_map.mpr ⟨p, List.mem_of_getElem? hp, rfl⟩)
      rw [List.find?_cons_of_neg (by simpa using hne)]
      exact ih (i := i) hp (List.nodup_cons.mp hd).2
theorem lk_app {ps r : List (Nat × Nat)} {a b : Nat} (h : lk ps a = some b) : lk (ps ++ r) a = some b := by
  unfold lk at *
  rw [List.find?_append]
  cases e : ps.find? (fun p => p.1 == a) with
  | none => rw [e] at h; cases h
  | some p => rw [e] at h; exact h
theorem get_app {α : Type} {l r : List α} {i : Nat} {x : α} (h : l[i]? = some x) : (l ++ r)[i]? = some x := by
  rw [List.getElem?_append_left (List.getElem?_eq_some_iff.mp h).1, h]
end Nk
/-! ## W6: spread, _law_match -/
namespace Nk
open PySem PySem.Spec PyProof.Rows L2 Evl

section
variable {K : PySem.W.Frag} {σ : L2.St} {H H' : Hp} {ta tb te tx tl tk tv : TE} {t u : TT} {D : Ends} {tu tw tz tb : TS} {v b : V}
theorem q_zipT {i1 i2 : Nat} {a b : Addr} {xs ys : List V} {ta : TA} (h : EvA ta σ H [.ref a, .ref b]) (hx : SqT K H a xs) (hy : SqT K H b ys) (hl : xs.length = ys.length) (Pv : Nat → L2.St → Hp → Prop) (h0 : ∀ H1, Ex H H1 → Pv 0 σ H1) (hq : ∀ i σ' H', Pv i σ' H' → SqT K H' a xs ∧ SqT K H' b ys)
    (hs : ∀ i x y σ' H' H2, xs[i]? = some x → ys[i]? = some y → Pv i σ' H' → Ex H' H2 → tu { D with nx := Pv (i + 1), ct := Pv (i + 1), bk := tz D } ((σ'.set i1 (some x)).set i2 (some y)) H2) (hd : ∀ σ' H', Pv xs.length σ' H' → tz D σ' H') :
    tSeq (tFor (RZ.iZipA K ta) (gTup K 2 (gCons (gName i1) (gCons (gName i2) gNil))) tu) tz D σ H := by
  unfold tSeq tFor RZ.iZipA
  refine h H (Ex.refl H) _ fun H1 e1 => ?_
  refine ⟨a, b, xs, ys, rfl, .inr ⟨ex_t e1 hx, ex_t e1 hy, ?_⟩⟩
  refine RZ.for_zipT (D := { D with nx := tz D }) hl Pv (h0 H1 e1) hq (fun i x y T σ' H' h1 h2 p hT => ?_) hd
  exact ⟨T, [x, y], rfl, st_of upd_same, rfl, x, [y], rfl, y, [], rfl, rfl, hs i x y σ' H' _ h1 h2 p (Ex.new hT)⟩
theorem s_zipT {i1 i2 : Nat} {a b : Addr} {xs ys : List V} {ta : TA} (h : EvA ta σ H [.ref a, .ref b]) (hx : SqT K H a xs) (hy : SqT K H b ys) (hl : xs.length = ys.length) (Pv : Nat → L2.St → Hp → Prop) (h0 : ∀ H1, Ex H H1 → Pv 0 σ H1) (hq : ∀ i σ' H', Pv i σ' H' → SqT K H' a xs ∧ SqT K H' b ys)
    (hs : ∀ i x y σ' H' H2, xs[i]? = some x → ys[i]? = some y → Pv i σ' H' → Ex H' H2 → tu { D with nx := Pv (i + 1), ct := Pv (i + 1), bk := D.nx } ((σ'.set i1 (some x)).set i2 (some y)) H2) (hd : ∀ σ' H', Pv xs.length σ' H' → D.nx σ' H') :
    tFor (RZ.iZipA K ta) (gTup K 2 (gCons (gName i1) (gCons (gName i2) gNil))) tu D σ H := q_zipT (tz := fun D' => D'.nx) (D := D) h hx hy hl Pv h0 hq hs hd
/-- a, b = {k: v}, [x] -/
theorem q_parDL {i j : Nat} {k : Int} (hv : Ev te σ H v) (hk : Ev tk σ H (.int k)) (hw : Ev tv σ H b)
    (c : ∀ p r H1, H p = none → H r = none → r ≠ p → Ex H H1 → H1 r = some (.lst [v]) → H1 p = some (.dK [((Sum.inl k : Key), b)]) → tz D ((σ.set i (some (.ref p))).set j (some (.ref r))) H1) :
    tSeq (tPar i j (tCons (tDisp [(tk, tv)]) (tCons (tLst (tCons te tNil)) tNil))) tz D σ H := by
  unfold tSeq tPar tCons
  intro p hp
  refine hk (upd H p (.dK [])) (Ex.new hp) _ fun H2 e2 => ?_
  refine hw H2 ((Ex.new hp).trans e2) _ fun H3 e3 => ?_
  have h3 : H3 p = some (.dK []) := e3 p _ (e2 p _ upd_same)
  refine ⟨h3, [((Sum.inl k : Key), b)], rfl, (by show 1 ≤ 15; omega), ?_⟩
  have eH : Ex H (upd H3 p (.dK (putK [] (Sum.inl k) b))) := Ex.mut ((Ex.new hp).trans (e2.trans e3)) hp
  have hpp : (upd H3 p (.dK (putK [] (Sum.inl k) b))) p = some (.dK [((Sum.inl k : Key), b)]) := by rw [upd_same]; rfl
  refine (el_lst (ea_cons hv ea_nil) (by show 1 ≤ 100000; omega)) _ eH _ fun r H4 r0 e4 h4 => ?_
  have rp : r ≠ p := fun z => by rw [z, hpp] at r0; cases r0
  exact ⟨.ref p, .ref r, rfl, c p r _ hp (fresh_back eH r0) rp (eH.trans e4) h4 (e4 _ _ hpp)⟩
end
def RetM (o : Option (List (Nat × Nat))) (H : Hp) (Q : VK) : Prop := match o with
  | none => ∀ H2, Ex H H2 → Q .non H2
  | some ps => ∀ p H2, H p = none → Ex H H2 → H2 p = some (.dK (kp ps)) → Q (.ref p) H2
def spMatch (K : PySem.W.Frag) : Sp := fun vs H Q _ => ∃ (v u : V) (n m : Nat) (s t : Net) (x y : Nat), vs = [v, nv x, u, nv y] ∧ Dp K H v (encNet s) ∧ Dp K H u (encNet t) ∧ Form n s ∧ Form m t ∧ n ≤ 1000 ∧ m ≤ 1000 ∧ x < n ∧ y < m ∧ RetM (mtch s t n x y) H Q
section
variable {P : Program} {w : World} {K : PySem.W.Frag} {mg : Str → Option Value} {base : Heap}
theorem sc_spread : FnScope ["net", "flag", "other_net", "start", "images", "row", "spot", "here", "change", "other_change", "there", "due"] ["net", "flag", "other_net", "start"] (defScope (top 28)) := ⟨rfl, rfl, rfl, by decide +kernel, rfl, by decide +kernel, by decide +kernel⟩
theorem kn_spread (T : Txt K mg) : Kn P w K mg base CX0 1 "spread" ["net", "flag", "other_net", "start"] (spMatch K) := by
  obtain ⟨f, fd, F, hm⟩ := (T.df 18 (p := (28, "spread")) rfl)
  refine kn_ok F hm sc_spread (fun _ _ _ _ _ _ us hl => match us, hl with | [_, _, _, _], _ => rfl) (fun vs H Q E h => ?_) (fun cdv A outer s H vs Q E hr h => ?_)
  · obtain ⟨v, u, n, m, s, t, x, y, rfl, _⟩ := h
    rfl
  · obtain ⟨v, u, n, m, s, t, x, y, rfl, hN, hM, F, G, hn, hm, hx, hy, q⟩ := h
    obtain ⟨a, xs, rfl, hT, hD⟩ := dp_ofNet hN
    obtain ⟨b, ys, rfl, hT2, hD2⟩ := dp_ofNet hM
    refine ⟨_, (pss_cons (ps_set (i := 4) sc_spread.nd rfl (Or.inl rfl) (pe_disp (pps_cons (pv 1) (pv 3) pps_nil) (by rfl) (by rfl) (fun z => by cases z) (by decide)))
  (pss_cons (ps_set (i := 5) sc_spread.nd rfl (Or.inl rfl) (pe_lst (pa_cons (pv 1) pa_nil)))
  (pss_cons (ps_set (i := 6) sc_spread.nd rfl (Or.inl rfl) pe_int)
  (pss_cons (ps_while PassesOwn.never (pt_cmpR op_lt (pv 6) (pe_callB (cK_len (K := K) (by rfl)) (by rfl) T.len bt_len (pa_cons (pv 5) pa_nil)) (nomark _))
  (pss_cons (ps_set (i := 7) sc_spread.nd rfl (Or.inl rfl) (pe_ix (ixK_list (K := K) (by rfl)) (pv 5) (pv 6) (fun _ _ => rfl)))
  (pss_cons (ps_for PassesOwn.never rfl (piK_zip (K := K) (by rfl) (by rfl) T.zip (pa_cons (pv 0) (pa_cons (pv 2) pa_nil))) (pg_tup rfl (pgs_cons (pg_name (i := 8) sc_spread.nd rfl (by first | exact Or.inl rfl | exact Or.inr rfl)) (pgs_cons (pg_name (i := 9) sc_spread.nd rfl (by first | exact Or.inl rfl | exact Or.inr rfl)) pgs_nil)))
  (pss_cons (ps_set (i := 10) sc_spread.nd rfl (Or.inl rfl) (pe_ix (ixK_tup (K := K) (by rfl)) (pv 8) (pv 7) (fun _ _ => rfl)))
  (pss_cons (ps_set (i := 11) sc_spread.nd rfl (Or.inl rfl) (pe_ix (ixK_tup (K := K) (by rfl)) (pv 9) (pe_dget (hu_of hr) (pv 4) (pv 7) (fun _ _ => rfl)) (fun _ _ => rfl)))
  (pss_one (ps_if (pt_cmp (pc_dnotin (hu_of hr) (pv 10) (pv 4)))
  (pss_cons (ps_dput (hu_of hr) (pv 4) (pv 10) (pv 11) rfl)
  (pss_one (ps_expr (pe_bmK (K := K) (by rfl) PySem.F.plainAttrs_list PySem.F.slot_list_append PySem.F.type_list_append mt_append (pv 5) (pa_cons (pv 10) pa_nil)))))
  (pss_one (ps_if (pt_cmpR op_ne (pe_dget (hu_of hr) (pv 4) (pv 10) (fun _ _ => rfl)) (pv 11) (nomark _))
  (pss_one (ps_ret pe_non))
  pss_nil)))))))
  (pss_one (ps_set (i := 6) sc_spread.nd rfl (Or.inl rfl) (pe_op op_add (pv 6) pe_int))))))
  (pss_one (ps_ret (pv 4))))))), ?_⟩
    refine asgD1 (ev_var rfl) (ev_var rfl) fun d H1 d0 e1 h1 => ?_
    refine q_asgL (el_lst (ea_cons (ev_var rfl) ea_nil) (by show 1 ≤ 100000; omega)) fun r H2 r0 e2 h2 => ?_
    refine q_asg ev_c fun H3 e3 => ?_
    have nrd : r ≠ d := fun z => by rw [z, h1] at r0; cases r0
    have rH : H r = none := fresh_back e1 r0
    have dH : H d = none := d0
    let St := fun (i : Nat) (ps : List (Nat × Nat)) (σ : L2.St) (H' : Hp) => ∃ (y7 y8 y9 y10 y11 : Option V), σ = [some (.ref a), some (nv x), some (.ref b), some (nv y), some (.ref d), some (.ref r), some (nv i), y7, y8, y9, y10, y11] ∧
      Ex H H' ∧ H' r = some (.lst (nl (ps.map (·.1)))) ∧ H' d = some (.dK (kp ps))
    refine q_while (fun μ σ H' => ∃ (i : Nat) (ps : List (Nat × Nat)), St i ps σ H' ∧ MOk n m ps ∧ i ≤ ps.length ∧ mtGo s t μ ps i = mtch s t n x y ∧ μ + i = n) n
      ⟨0, [(x, y)], ⟨none, none, none, none, none, rfl, (e1.trans e2).trans e3, e3 _ _ h2, e3 _ _ (e2 _ _ h1)⟩, ⟨by simp, by intro p hp; rw [List.mem_singleton.mp hp]; exact ⟨hx, hy⟩⟩, Nat.zero_le _, rfl, rfl⟩ fun μ σ' H' hW => ?_
    obtain ⟨i, ps, ⟨y7, y8, y9, y10, y11, rfl, e, hrow, htold⟩, ok, hil, hgo, hmu⟩ := hW
    have hpl : ps.length ≤ n := ok.len
    refine ⟨decide ((i : Int) < ((nl (ps.map (·.1))).length : Int)), et_test (ev_op (ev_var rfl) (ev_lenL (ev_var rfl) (sq_of hrow)) rv_I0), fun hb H4 e4 => ?_, fun hb H4 e4 => ?_⟩
    · have hlt : i < ps.length := by
        have := of_decide_eq_true hb
        rw [nl_len, List.length_map] at this
        omega
      obtain ⟨μ', rfl⟩ : ∃ k, μ = k + 1 := ⟨μ - 1, by omega⟩
      obtain ⟨⟨x', y'⟩, hz⟩ : ∃ z, ps[i]? = some z := ⟨ps[i], List.getElem?_eq_getElem hlt⟩
      obtain ⟨hxn, hym⟩ := ok.lt _ (List.mem_of_getElem? hz)
      rw [mtGo_go hz] at hgo
      refine ⟨fun σ2 H2 => ∃ ps', St (i + 1) ps' σ2 H2 ∧ MOk n m ps' ∧ i + 1 ≤ ps'.length ∧ mtGo s t μ' ps' (i + 1) = mtch s t n x y, fun σ2 H2 ⟨ps', a1, a2, a3, a4⟩ => ⟨μ', by omega, i + 1, ps', a1, a2, a3, a4, by omega⟩, ?_⟩
      have hrk : ∀ {ps' : List (Nat × Nat)}, (∃ r, ps' = ps ++ r) → (nl (ps'.map (·.1)))[i]? = some (nv x') := fun {ps'} ⟨r, er⟩ => by
        refine nl_get ?_
        rw [er, List.map_append]
        refine get_app ?_
        rw [List.getElem?_map, hz]
        rfl
      refine q_asg (v := nv x') (ev_ixL (ev_var rfl) (sq_of (e4 _ _ hrow)) (ev_var rfl) (atI_n (hrk ⟨[], (List.append_nil _).symm⟩))) fun H5 e5 => ?_
      have eh5 := (e.trans e4).trans e5
      have hl3 : xs.length = 3 := by rw [hD.length, List.length_map, F.three]
      refine q_zipT (K := K) (a := a) (b := b) (xs := xs) (ys := ys) (ea_cons (ev_var rfl) (ea_cons (ev_var rfl) ea_nil)) (ex_t eh5 hT) (ex_t eh5 hT2) (by rw [hl3, hD2.length, List.length_map, G.three])
        (fun k σ2 H2 => ∃ (ps' : List (Nat × Nat)) (y8 y9 y10 y11 : Option V), mtv s t x' y' ps k = some ps' ∧ k ≤ 3 ∧ σ2 = [some (.ref a), some (nv x), some (.ref b), some (nv y), some (.ref d), some (.ref r), some (nv i), some (nv x'), y8, y9, y10, y11] ∧
          Ex H H2 ∧ H2 r = some (.lst (nl (ps'.map (·.1)))) ∧ H2 d = some (.dK (kp ps')))
        (fun H6 e6 => ⟨ps, y8, y9, y10, y11, rfl, by omega, rfl, eh5.trans e6, e6 _ _ (e5 _ _ (e4 _ _ hrow)), e6 _ _ (e5 _ _ (e4 _ _ htold))⟩)
        (fun k σ2 H2 hP => let ⟨_, _, _, _, _, _, _, _, e, _⟩ := hP; ⟨ex_t e hT, ex_t e hT2⟩) (fun k c1 c2 σ2 H2 H2' h1 h2 hP e2' => ?_) (fun σ2 H2 hP => ?_)
      · obtain ⟨ps', y8, y9, y10, y11, hmv, hk3, rfl, e, hrow, htold⟩ := hP
        have hk : k < 3 := by have := (List.getElem?_eq_some_iff.mp h1).1; omega
        obtain ⟨ok', hpre⟩ := mtv_ok F G hxn hym ok hk3 hmv
        obtain ⟨d1, hd1, hp1⟩ := hD.getv h1
        obtain ⟨ch1, hch1, rfl⟩ := encNet_of hd1
        obtain ⟨d2, hd2, hp2⟩ := hD2.getv h2
        obtain ⟨ch2, hch2, rfl⟩ := encNet_of hd2
        obtain ⟨q1, hq1, hq1', hq1n⟩ := F.row (List.mem_of_getElem? hch1) hxn
        obtain ⟨q2, hq2, hq2', hq2n⟩ := G.row (List.mem_of_getElem? hch2) hym
        have ea1 : ap s k x' = q1 := by unfold ap; rw [List.getD_eq_getElem?_getD (l := s), hch1]; exact hq1'
        have ea2 : ap t k y' = q2 := by unfold ap; rw [List.getD_eq_getElem?_getD (l := t), hch2]; exact hq2'
        have hst : mtv s t x' y' ps (k + 1) = mt1 ps' q1 q2 := by
          show (mtv s t x' y' ps k).bind _ = _
          rw [hmv, ea1, ea2]
          rfl
        have hlkx : valV (kp ps') (Sum.inl (x' : Int)) = some (nv y') := by
          obtain ⟨r', er⟩ := hpre
          rw [valV_kp, er, lk_app (lk_at ok hz)]
          rfl
        have hrow2 := e2' _ _ hrow
        have htold2 := e2' _ _ htold
        refine asg (g_ixT (K := K) (i := x') (g_var (a := .d (encR ch1)) rfl (hp1.mono (e.trans e2'))) (g_vn rfl) (encR_get hq1)) fun vq H3 e3 hvq => ?_
        cases Dp.int_eq hvq
        refine asg (g_ixT (K := K) (i := y') (g_var (a := .d (encR ch2)) rfl (hp2.mono ((e.trans e2').trans e3))) (g_toD (g_dget (g_vv rfl) (e3 _ _ htold2) (g_vn rfl) hlkx)) (encR_get hq2)) fun vq H4 e4 hvq => ?_
        cases Dp.int_eq hvq
        have hrow4 := e4 _ _ (e3 _ _ hrow2)
        have htold4 := e4 _ _ (e3 _ _ htold2)
        have eh4 := ((e.trans e2').trans e3).trans e4
        refine s_if (et_notin htold4 (ev_var rfl) (ev_var rfl)) (fun hb H5 e5 => ?_) (fun hb H5 e5 => ?_)
        · have hln : lk ps' q1 = none := by
            rw [valV_kp] at hb
            cases hl : lk ps' q1 with
            | none => rfl
            | some z => rw [hl] at hb; cases hb
          refine putD (e5 _ _ htold4) (ev_var (v := nv q2) rfl) (ev_var rfl) (ev_var rfl) (by rw [kp_len]; have := ok'.len; omega) fun H6 e6 => ?_
          have hrow6 : (upd H6 d (.dK (putK (kp ps') (Sum.inl (q1 : Int)) (nv q2)))) r = some (.lst (nl (ps'.map (·.1)))) := by
            rw [upd_ne nrd]
            exact e6 _ _ (e5 _ _ hrow4)
          refine appD (v := nv q1) hrow6 (ev_var rfl) (ev_var rfl) (by rw [nl_len, List.length_map]; have := ok'.len; omega) fun H7 e7 => ?_
          refine ⟨ps' ++ [(q1, q2)], _, _, _, _, by rw [hst, mt1_new hln], by omega, rfl, Ex.mut ((Ex.mut ((eh4.trans e5).trans e6) dH).trans e7) rH, ?_, ?_⟩
          · rw [upd_same, List.map_append, nl_app]
            rfl
          · rw [upd_ne nrd.symm, e7 _ _ upd_same, putK_kp hln]
        · obtain ⟨z, hl⟩ : ∃ z, lk ps' q1 = some z := by
            rw [valV_kp] at hb
            cases hl : lk ps' q1 with
            | none => rw [hl] at hb; cases hb
            | some z => exact ⟨z, rfl⟩
          refine s_when (et_of (K := K) (g_op (a := .d (.int (z : Int))) (b := .d (.int (q2 : Int))) (g_toD (g_dget (g_vv rfl) (e5 _ _ htold4) (g_vn rfl) (by rw [valV_kp, hl]; rfl))) (g_vi rfl) rg_neI)) (fun hb2 H6 e6 => ?_) (fun hb2 H6 e6 => ?_)
          · have hne : z ≠ q2 := by
              intro h
              simp [h] at hb2
            have hnone : mtv s t x' y' ps (k + 1) = none := by rw [hst, mt1_old hl, if_neg hne]
            have h3 : mtv s t x' y' ps 3 = none := by
              have := mtv_none hnone (3 - (k + 1))
              rwa [show k + 1 + (3 - (k + 1)) = 3 by omega] at this
            rw [h3] at hgo
            have hgo : none = mtch s t n x y := hgo
            rw [← hgo] at q
            exact s_ret (ev_c) fun H7 e7 => q H7 (((eh4.trans e5).trans e6).trans e7)
          · have heq : z = q2 := by
              have h := of_decide_eq_true (by simpa using hb2)
              omega
            refine ⟨ps', _, _, _, _, by rw [hst, mt1_old hl, if_pos heq], by omega, rfl, (eh4.trans e5).trans e6, e6 _ _ (e5 _ _ hrow4), e6 _ _ (e5 _ _ htold4)⟩
      · obtain ⟨ps', y8, y9, y10, y11, hmv, hk3, rfl, e, hrow, htold⟩ := hP
        rw [hl3] at hmv
        obtain ⟨ok', r', hpre⟩ := mtv_ok F G hxn hym ok (by omega) hmv
        refine s_asg (v := nv (i + 1)) (ev_op (ev_var rfl) ev_c rv_I0) fun H3 e3 => ?_
        refine ⟨ps', ⟨_, _, _, _, _, rfl, e.trans e3, e3 _ _ hrow, e3 _ _ htold⟩, ok', by rw [hpre, List.length_append]; omega, ?_⟩
        rw [← hgo, hmv]
        rfl
    · have hge : ps.length ≤ i := by
        have := of_decide_eq_false hb
        rw [nl_len, List.length_map] at this
        omega
      rw [mtGo_stop hge] at hgo
      rw [← hgo] at q
      exact s_ret (ev_var rfl) fun H5 e5 => q d H5 dH ((e.trans e4).trans e5) (e5 _ _ (e4 _ _ htold))
theorem sc_law_match : FnScope ["_law_net_here", "_law_flag", "_law_other", "_law_start", "_law_told", "_law_row", "_law_n", "_law_change", "_law_then", "_law_due"] ["_law_net_here", "_law_flag", "_law_other", "_law_start"] (defScope (top 51)) := ⟨rfl, rfl, rfl, by decide +kernel, rfl, by decide +kernel, by decide +kernel⟩
theorem kn_law_match (T : Txt K mg) : Kn P w K mg base CX0 1 "_law_match" ["_law_net_here", "_law_flag", "_law_other", "_law_start"] (spMatch K) := by
  obtain ⟨f, fd, F, hm⟩ := (T.df 40 (p := (51, "_law_match")) rfl)
  refine kn_ok F hm sc_law_match (fun _ _ _ _ _ _ us hl => match us, hl with | [_, _, _, _], _ => rfl) (fun vs H Q E h => ?_) (fun cdv A outer s H vs Q E hr h => ?_)
  · obtain ⟨v, u, n, m, s, t, x, y, rfl, _⟩ := h
    rfl
  · obtain ⟨v, u, n, m, s, t, x, y, rfl, hN, hM, F, G, hn, hm, hx, hy, q⟩ := h
    obtain ⟨a, xs, rfl, hT, hD⟩ := dp_ofNet hN
    obtain ⟨b, ys, rfl, hT2, hD2⟩ := dp_ofNet hM
    refine ⟨_, (pss_cons (ps_par (i := 4) (j := 5) (by rfl) sc_law_match.nd rfl rfl (by decide) rfl rfl (pa_cons (pe_disp (pps_cons (pv 1) (pv 3) pps_nil) (by rfl) (by rfl) (fun z => by cases z) (by decide)) (pa_cons (pe_lst (pa_cons (pv 1) pa_nil)) pa_nil)) (by rfl))
  (pss_cons (ps_for PassesOwn.never rfl (pi_range1 rfl T.range (pa_cons (pe_callB (cK_len (K := K) (by rfl)) (by rfl) T.len bt_len (pa_cons (pe_ix (ixK_tup (K := K) (by rfl)) (pv 0) pe_int (fun _ _ => rfl)) pa_nil)) pa_nil)) (pg_name (i := 6) sc_law_match.nd rfl (by first | exact Or.inl rfl | exact Or.inr rfl))
  (pss_cons (ps_if (pt_cmpR op_eq (pv 6) (pe_callB (cK_len (K := K) (by rfl)) (by rfl) T.len bt_len (pa_cons (pv 5) pa_nil)) (nomark _))
  (pss_one ps_break)
  pss_nil)
  (pss_one (ps_for PassesOwn.never rfl (pi_range1 rfl T.range (pa_cons pe_int pa_nil)) (pg_name (i := 7) sc_law_match.nd rfl (by first | exact Or.inl rfl | exact Or.inr rfl))
  (pss_cons (ps_set (i := 8) sc_law_match.nd rfl (Or.inl rfl) (pe_ix (ixK_tup (K := K) (by rfl)) (pe_ix (ixK_tup (K := K) (by rfl)) (pv 0) (pv 7) (fun _ _ => rfl)) (pe_ix (ixK_list (K := K) (by rfl)) (pv 5) (pv 6) (fun _ _ => rfl)) (fun _ _ => rfl)))
  (pss_cons (ps_set (i := 9) sc_law_match.nd rfl (Or.inl rfl) (pe_ix (ixK_tup (K := K) (by rfl)) (pe_ix (ixK_tup (K := K) (by rfl)) (pv 2) (pv 7) (fun _ _ => rfl)) (pe_dget (hu_of hr) (pv 4) (pe_ix (ixK_list (K := K) (by rfl)) (pv 5) (pv 6) (fun _ _ => rfl)) (fun _ _ => rfl)) (fun _ _ => rfl)))
  (pss_one (ps_if (pt_cmp (pc_dnotin (hu_of hr) (pv 8) (pv 4)))
  (pss_cons (ps_dput (hu_of hr) (pv 4) (pv 8) (pv 9) rfl)
  (pss_one (ps_expr (pe_bmK (K := K) (by rfl) PySem.F.plainAttrs_list PySem.F.slot_list_append PySem.F.type_list_append mt_append (pv 5) (pa_cons (pv 8) pa_nil)))))
  (pss_one (ps_if (pt_cmpR op_ne (pe_dget (hu_of hr) (pv 4) (pv 8) (fun _ _ => rfl)) (pv 9) (nomark _))
  (pss_one (ps_ret pe_non))
  pss_nil))))))))))
  (pss_one (ps_ret (pv 4))))), ?_⟩
    refine q_parDL (ev_var rfl) (ev_var rfl) (ev_var rfl) fun d r H1 d0 rH nrd e1 hr1 hd1 => ?_
    have dH : H d = none := d0
    refine q_forR1 (n := n) (ea_cons (g_ev (g_toV (g_len0 F (g_var rfl (show Is K H1 (.ref a) (.d (encNet s)) from hN.mono e1))))) ea_nil) (by omega)
      (fun i σ H' => ∃ (ps : List (Nat × Nat)) (y6 y7 y8 y9 : Option V), σ = [some (.ref a), some (nv x), some (.ref b), some (nv y), some (.ref d), some (.ref r), y6, y7, y8, y9] ∧
        Ex H H' ∧ H' r = some (.lst (nl (ps.map (·.1)))) ∧ H' d = some (.dK (kp ps)) ∧ MOk n m ps ∧ i ≤ ps.length ∧ mtGo s t (n - i) ps i = mtch s t n x y)
      (fun H2 e2 => ⟨[(x, y)], none, none, none, none, rfl, e1.trans e2, e2 _ _ hr1, e2 _ _ hd1, ⟨by simp, by intro p hp; rw [List.mem_singleton.mp hp]; exact ⟨hx, hy⟩⟩, Nat.zero_le _, rfl⟩) (fun i σ' H' hi hP => ?_) (fun σ' H' hP => ?_)
    · obtain ⟨ps, y6, y7, y8, y9, rfl, e, hrow, htold, ok, hil, hgo⟩ := hP
      have hpl : ps.length ≤ n := ok.len
      refine q_when (et_test (ev_op (ev_var rfl) (ev_lenL (ev_var rfl) (sq_of hrow)) (rv_eq rfl))) (fun hb H4 e4 => ?_) (fun hb H4 e4 => ?_)
      · have he : i = ps.length := by
          have h1 := of_decide_eq_true hb
          rw [nl_len, List.length_map] at h1
          have h2 := V.int.inj h1
          omega
        rw [mtGo_stop (by omega)] at hgo
        rw [← hgo] at q
        exact s_ret (ev_var rfl) fun H5 e5 => q d H5 dH ((e.trans e4).trans e5) (e5 _ _ (e4 _ _ htold))
      · have hlt : i < ps.length := by
          have h1 := of_decide_eq_false hb
          rw [nl_len, List.length_map] at h1
          rcases Nat.lt_or_ge i ps.length with h | h
          · exact h
          · exact absurd (by rw [show i = ps.length by omega]) h1
        obtain ⟨⟨x', y'⟩, hz⟩ : ∃ z, ps[i]? = some z := ⟨ps[i], List.getElem?_eq_getElem hlt⟩
        obtain ⟨hxn, hym⟩ := ok.lt _ (List.mem_of_getElem? hz)
        rw [show n - i = (n - (i + 1)) + 1 by omega, mtGo_go hz] at hgo
        have hrk : ∀ {ps' : List (Nat × Nat)}, (∃ r, ps' = ps ++ r) → (nl (ps'.map (·.1)))[i]? = some (nv x') := fun {ps'} ⟨r, er⟩ => by
          refine nl_get ?_
          rw [er, List.map_append]
          refine get_app ?_
          rw [List.getElem?_map, hz]
          rfl
        refine s_forR1 (n := 3) (ea_cons ev_c ea_nil) (by omega)
          (fun k σ2 H2 => ∃ (ps' : List (Nat × Nat)) (y7 y8 y9 : Option V), mtv s t x' y' ps k = some ps' ∧ σ2 = [some (.ref a), some (nv x), some (.ref b), some (nv y), some (.ref d), some (.ref r), some (nv i), y7, y8, y9] ∧
            Ex H H2 ∧ H2 r = some (.lst (nl (ps'.map (·.1)))) ∧ H2 d = some (.dK (kp ps')))
          (fun H6 e6 => ⟨ps, y7, y8, y9, rfl, rfl, (e.trans e4).trans e6, e6 _ _ (e4 _ _ hrow), e6 _ _ (e4 _ _ htold)⟩) (fun k σ2 H2 hk hP => ?_) (fun σ2 H2 hP => ?_)
        · obtain ⟨ps', y7, y8, y9, hmv, rfl, e, hrow, htold⟩ := hP
          have hk : k < 3 := by omega
          obtain ⟨ok', hpre⟩ := mtv_ok F G hxn hym ok (by omega) hmv
          obtain ⟨ch1, hch1, hg1, _, hm1⟩ := F.get hk
          obtain ⟨ch2, hch2, hg2, _, hm2⟩ := G.get hk
          obtain ⟨q1, hq1, hq1', hq1n⟩ := F.row hm1 hxn
          obtain ⟨q2, hq2, hq2', hq2n⟩ := G.row hm2 hym
          have ea1 : ap s k x' = q1 := by unfold ap; rw [hg1]; exact hq1'
          have ea2 : ap t k y' = q2 := by unfold ap; rw [hg2]; exact hq2'
          have hst : mtv s t x' y' ps (k + 1) = mt1 ps' q1 q2 := by
            show (mtv s t x' y' ps k).bind _ = _
            rw [hmv, ea1, ea2]
            rfl
          have hlkx : valV (kp ps') (Sum.inl (x' : Int)) = some (nv y') := by
            obtain ⟨r', er⟩ := hpre
            rw [valV_kp, er, lk_app (lk_at ok hz)]
            rfl
          have hix : ∀ {H3 : Hp} {y8 y9 : Option V}, H3 r = some (.lst (nl (ps'.map (·.1)))) → EvG K (tOp (rIxL K) (tVar 5) (tVar 6)) [some (.ref a), some (nv x), some (.ref b), some (nv y), some (.ref d), some (.ref r), some (nv i), some (nv k), y8, y9] H3 (.d (encN x')) := fun {H3 y8 y9} h3 =>
            g_ref (d := encN x') (g_of_ev (ev_ixL (ev_var rfl) (sq_of h3) (ev_var rfl) (atI_n (hrk hpre)))) (.int _)
          refine asg (g_ixT (K := K) (i := x') (g_ixT (i := k) (g_var (a := .d (encNet s)) rfl (hN.mono e)) (g_vn rfl) (encNet_get hch1)) (hix hrow) (encR_get hq1)) fun vq H3 e3 hvq => ?_
          cases Dp.int_eq hvq
          refine asg (g_ixT (K := K) (i := y') (g_ixT (i := k) (g_var (a := .d (encNet t)) rfl (hM.mono (e.trans e3))) (g_vn rfl) (encNet_get hch2)) (g_toD (g_dget (g_vv rfl) (e3 _ _ htold) (hix (e3 _ _ hrow)) hlkx)) (encR_get hq2)) fun vq H4 e4 hvq => ?_
          cases Dp.int_eq hvq
          have hrow4 := e4 _ _ (e3 _ _ hrow)
          have htold4 := e4 _ _ (e3 _ _ htold)
          have eh4 := (e.trans e3).trans e4
          refine s_if (et_notin htold4 (ev_var rfl) (ev_var rfl)) (fun hb H5 e5 => ?_) (fun hb H5 e5 => ?_)
          · have hln : lk ps' q1 = none := by
              rw [valV_kp] at hb
              cases hl : lk ps' q1 with
              | none => rfl
              | some z => rw [hl] at hb; cases hb
            refine putD (e5 _ _ htold4) (ev_var (v := nv q2) rfl) (ev_var rfl) (ev_var rfl) (by rw [kp_len]; have := ok'.len; omega) fun H6 e6 => ?_
            have hrow6 : (upd H6 d (.dK (putK (kp ps') (Sum.inl (q1 : Int)) (nv q2)))) r = some (.lst (nl (ps'.map (·.1)))) := by
              rw [upd_ne nrd]
              exact e6 _ _ (e5 _ _ hrow4)
            refine appD (v := nv q1) hrow6 (ev_var rfl) (ev_var rfl) (by rw [nl_len, List.length_map]; have := ok'.len; omega) fun H7 e7 => ?_
            refine ⟨ps' ++ [(q1, q2)], _, _, _, by rw [hst, mt1_new hln], rfl, Ex.mut ((Ex.mut ((eh4.trans e5).trans e6) dH).trans e7) rH, ?_, ?_⟩
            · rw [upd_same, List.map_append, nl_app]
              rfl
            · rw [upd_ne nrd.symm, e7 _ _ upd_same, putK_kp hln]
          · obtain ⟨z, hl⟩ : ∃ z, lk ps' q1 = some z := by
              rw [valV_kp] at hb
              cases hl : lk ps' q1 with
              | none => rw [hl] at hb; cases hb
              | some z => exact ⟨z, rfl⟩
            refine s_when (et_of (K := K) (g_op (a := .d (.int (z : Int))) (b := .d (.int (q2 : Int))) (g_toD (g_dget (g_vv rfl) (e5 _ _ htold4) (g_vn rfl) (by rw [valV_kp, hl]; rfl))) (g_vi rfl) rg_neI)) (fun hb2 H6 e6 => ?_) (fun hb2 H6 e6 => ?_)
            · have hne : z ≠ q2 := by
                intro h
                simp [h] at hb2
              have hnone : mtv s t x' y' ps (k + 1) = none := by rw [hst, mt1_old hl, if_neg hne]
              have h3 : mtv s t x' y' ps 3 = none := by
                have := mtv_none hnone (3 - (k + 1))
                rwa [show k + 1 + (3 - (k + 1)) = 3 by omega] at this
              rw [h3] at hgo
              have hgo : none = mtch s t n x y := hgo
              rw [← hgo] at q
              exact s_ret (ev_c) fun H7 e7 => q H7 (((eh4.trans e5).trans e6).trans e7)
            · have heq : z = q2 := by
                have h := of_decide_eq_true (by simpa using hb2)
                omega
              refine ⟨ps', _, _, _, by rw [hst, mt1_old hl, if_pos heq], rfl, (eh4.trans e5).trans e6, e6 _ _ (e5 _ _ hrow4), e6 _ _ (e5 _ _ htold4)⟩
        · obtain ⟨ps', y7, y8, y9, hmv, rfl, e, hrow, htold⟩ := hP
          obtain ⟨ok', r', hpre⟩ := mtv_ok F G hxn hym ok (by omega) hmv
          refine ⟨ps', some (nv i), y7, y8, y9, rfl, e, hrow, htold, ok', by rw [hpre, List.length_append]; omega, ?_⟩
          rw [← hgo, show mtv s t x' y' ps 3 = some ps' from hmv]
          rfl
    · obtain ⟨ps, y6, y7, y8, y9, rfl, e, hrow, htold, ok, hil, hgo⟩ := hP
      rw [Int.toNat_natCast, Nat.sub_self] at hgo
      have hgo : some ps = mtch s t n x y := hgo
      rw [← hgo] at q
      exact s_ret (ev_var rfl) fun H5 e5 => q d H5 dH (e.trans e5) (e5 _ _ htold)
end
end Nk
/-! ## M3: keys of the walk over two nets; the greedy search -/
namespace Nk
open PySem PySem.Spec PyProof.Rows L2 Evl

theorem lk_some_mem {ps : List (Nat × Nat)} {a d : Nat} (h : lk ps a = some d) : a ∈ ps.map (·.1) := by
  by_cases m : a ∈ ps.map (·.1)
  · exact m
  · rw [lk_none.mpr m] at h
    cases h
theorem mt1_keys {ps q : List (Nat × Nat)} {a b : Nat} (h : mt1 ps a b = some q) : q.map (·.1) = vis1 (ps.map (·.1)) a := by
  unfold vis1
  cases hl : lk ps a with
  | none =>
    rw [mt1_new hl] at h
    cases h
    rw [if_neg (lk_none.mp hl), List.map_append]
    rfl
  | some d =>
    rw [mt1_old hl] at h
    rw [if_pos (lk_some_mem hl)]
    by_cases hd : d = b
    · rw [if_pos hd] at h
      cases h
      rfl
    · rw [if_neg hd] at h
      cases h
theorem mtv_keys {s t : Net} (h3 : s.length = 3) {x y : Nat} {ps : List (Nat × Nat)} : ∀ {k : Nat} {q : List (Nat × Nat)}, k ≤ 3 → mtv s t x y ps k = some q → q.map (·.1) = visit (s.take k) x (ps.map (·.1))
  | 0, q, _, h => by
    cases h
    rw [List.take_zero]
    rfl
  | k + 1, q, hk, h => by
    obtain ⟨q', e1, e2⟩ := Option.bind_eq_some_iff.mp h
    have hks : k < s.length := by omega
    rw [mt1_keys e2, mtv_keys h3 (by omega) e1, visit_take (List.getElem?_eq_getElem hks)]
    unfold ap
    rw [List.getD_eq_getElem?_getD (l := s), List.getElem?_eq_getElem hks]
    rfl
theorem mtGo_keys {s t : Net} (h3 : s.length = 3) : ∀ {k i : Nat} {ps q : List (Nat × Nat)}, mtGo s t k ps i = some q → q.map (·.1) = bfsGo s k (ps.map (·.1)) i
  | 0, i, ps, q, h => by
    cases h
    rfl
  | k + 1, i, ps, q, h => by
    cases hp : ps[i]? with
    | none =>
      have hl := List.getElem?_eq_none_iff.mp hp
      rw [mtGo_stop hl] at h
      cases h
      rw [bfsGo_stop (by rw [List.length_map]; omega)]
    | some p =>
      have hl := (List.getElem?_eq_some_iff.mp hp).1
      rw [mtGo_go hp] at h
      obtain ⟨q', e1, e2⟩ := Option.bind_eq_some_iff.mp h
      rw [bfsGo_go (by rw [List.length_map]; exact hl), mtGo_keys h3 e2, mtv_keys h3 (Nat.le_refl 3) e1, ← h3, List.take_length]
      rw [getD_of (show (ps.map (·.1))[i]? = some p.1 by rw [List.getElem?_map, hp]; rfl)]
theorem mtch_keys {s t : Net} (h3 : s.length = 3) {n x y : Nat} {q : List (Nat × Nat)} (h : mtch s t n x y = some q) : q.map (·.1) = bfs s n x := mtGo_keys h3 h
theorem mtGo_ok {n m : Nat} {s t : Net} (F : Form n s) (G : Form m t) : ∀ {k i : Nat} {ps q : List (Nat × Nat)}, MOk n m ps → mtGo s t k ps i = some q → MOk n m q ∧ ∃ r, q = ps ++ r
  | 0, i, ps, q, ok, h => by
    cases h
    exact ⟨ok, [], (List.append_nil _).symm⟩
  | k + 1, i, ps, q, ok, h => by
    cases hp : ps[i]? with
    | none =>
      rw [mtGo_stop (List.getElem?_eq_none_iff.mp hp)] at h
      cases h
      exact ⟨ok, [], (List.append_nil _).symm⟩
    | some p =>
      rw [mtGo_go hp] at h
      obtain ⟨q', e1, e2⟩ := Option.bind_eq_some_iff.mp h
      obtain ⟨hx, hy⟩ := ok.lt p (List.mem_of_getElem? hp)
      obtain ⟨ok1, r1, rfl⟩ := mtv_ok F G hx hy ok (Nat.le_refl 3) e1
      obtain ⟨ok2, r2, rfl⟩ := mtGo_ok F G ok1 e2
      exact ⟨ok2, r1 ++ r2, by rw [List.append_assoc]⟩
theorem mtch_ok {n m x y : Nat} {s t : Net} (F : Form n s) (G : Form m t) (hx : x < n) (hy : y < m) {q : List (Nat × Nat)} (h : mtch s t n x y = some q) : MOk n m q ∧ ∃ r, q = [(x, y)] ++ r :=
  mtGo_ok F G ⟨by simp, by intro p hp; rw [List.mem_singleton.mp hp]; exact ⟨hx, hy⟩⟩ h

/-! ### the greedy search -/
def okM (s t : Net) (n x y : Nat) : Option (List (Nat × Nat)) := match mtch s t n x y with
  | none => none
  | some ps => if (ps.map (·.2)).Nodup then some ps else none
def freeSp (s t : Net) (n m x : Nat) (taken : List Nat) : Option (List (Nat × Nat)) := (List.range m).findSome? fun y => if y ∈ taken then none else okM s t n x y
def gStep (s t : Net) (n m : Nat) (st : Option (List (Nat × Nat))) (f : Nat) : Option (List (Nat × Nat)) := match st with
  | none => none
  | some im => if f ∈ im.map (·.1) then some im else match freeSp s t n m f (im.map (·.2)) with
    | none => none
    | some ps => some (im ++ ps)
def greedyTo (s t : Net) (n m i : Nat) : Option (List (Nat × Nat)) := (List.range i).foldl (gStep s t n m) (some [])
theorem greedyTo_succ (s t : Net) (n m i : Nat) : greedyTo s t n m (i + 1) = gStep s t n m (greedyTo s t n m i) i := by
  unfold greedyTo
  rw [List.range_succ, List.foldl_append]
  rfl
theorem greedyTo_none {s t : Net} {n m i : Nat} (h : greedyTo s t n m i = none) : ∀ j, greedyTo s t n m (i + j) = none
  | 0 => h
  | j + 1 => by
    show greedyTo s t n m (i + j + 1) = none
    rw [greedyTo_succ, greedyTo_none h j]
    rfl
def foundL (s t : Net) (n m : Nat) : Option (List Nat) := if m ≠ n then none else (greedyTo s t n m n).map fun im => (List.range n).map fun f => (lk im f).getD 0
def optR (o : Option (List Nat)) : PyData := match o with
  | none => .none
  | some l => encR l
theorem findSome_mem {α β : Type} {f : α → Option β} {l : List α} {b : β} (h : l.findSome? f = some b) : ∃ a ∈ l, f a = some b := List.exists_of_findSome?_eq_some h
theorem okM_some {s t : Net} {n x y : Nat} {ps : List (Nat × Nat)} (h : okM s t n x y = some ps) : mtch s t n x y = some ps ∧ (ps.map (·.2)).Nodup := by
  unfold okM at h
  cases hm : mtch s t n x y with
  | none => rw [hm] at h; cases h
  | some q =>
    rw [hm] at h
    by_cases hd : (q.map (·.2)).Nodup
    · have h2 : (if (q.map (·.2)).Nodup then some q else none) = some ps := h
      rw [if_pos hd] at h2
      cases h2
      exact ⟨rfl, hd⟩
    · have h2 : (if (q.map (·.2)).Nodup then some q else none) = some ps := h
      rw [if_neg hd] at h2
      cases h2
theorem freeSp_some {s t : Net} {n m x : Nat} {tk : List Nat} {ps : List (Nat × Nat)} (h : freeSp s t n m x tk = some ps) : ∃ y, y < m ∧ y ∉ tk ∧ mtch s t n x y = some ps ∧ (ps.map (·.2)).Nodup := by
  obtain ⟨y, hy, e⟩ := findSome_mem h
  by_cases m : y ∈ tk
  · rw [if_pos m] at e
    cases e
  · rw [if_neg m] at e
    exact ⟨y, List.mem_range.mp hy, m, okM_some e⟩
/-- the greedy search meets the parts in their order -/
theorem greedyTo_keys {n m : Nat} {s t : Net} (B : Back n s) (G : Form m t) : ∀ {i : Nat} {im : List (Nat × Nat)}, i ≤ n → greedyTo s t n m i = some im → im.map (·.1) = (partsTo s n i).flatten ∧ MOk n m im
  | 0, im, _, h => by
    cases h
    exact ⟨by simp [partsTo], by simp, by simp⟩
  | i + 1, im, hi, h => by
    rw [greedyTo_succ] at h
    cases hg : greedyTo s t n m i with
    | none => rw [hg] at h; cases h
    | some im0 =>
      obtain ⟨hk, ok⟩ := greedyTo_keys B G (by omega) hg
      rw [hg] at h
      rw [partsTo_succ]
      unfold partsStep
      have h : (if i ∈ im0.map (·.1) then some im0 else match freeSp s t n m i (im0.map (·.2)) with | none => none | some ps => some (im0 ++ ps)) = some im := h
      by_cases mem : i ∈ im0.map (·.1)
      · rw [if_pos mem] at h
        cases h
        rw [if_pos (hk ▸ mem)]
        exact ⟨hk, ok⟩
      · rw [if_neg mem] at h
        have hnm : i ∉ (partsTo s n i).flatten := hk ▸ mem
        rw [if_neg hnm]
        cases hf : freeSp s t n m i (im0.map (·.2)) with
        | none => rw [hf] at h; cases h
        | some ps =>
          rw [hf] at h
          cases h
          obtain ⟨y, hy, _, hm, _⟩ := freeSp_some hf
          have hkeys := mtch_keys B.three hm
          obtain ⟨ok2, _⟩ := mtch_ok B.toForm G (by omega) hy hm
          refine ⟨?_, ?_, ?_⟩
          · rw [List.map_append, hk, hkeys]
            simp
          · rw [List.map_append, hk, hkeys]
            exact List.nodup_append.mpr ⟨(partsTo_inv B i (by omega)).nd, bfs_nodup B.toForm (by omega), fun a ha b hb q => bfs_out B (partsTo_inv B i (by omega)).cl (by omega) hnm b hb (q ▸ ha)⟩
          · intro p hp
            exact (List.mem_append.mp hp).elim (ok.lt p) (ok2.lt p)
theorem mem_keys_lk {ps : List (Nat × Nat)} {a : Nat} (h : a ∈ ps.map (·.1)) : ∃ d, lk ps a = some d := by
  cases e : lk ps a with
  | none => exact absurd h (lk_none.mp e)
  | some d => exact ⟨d, rfl⟩
/-! ### sets of numbers -/
theorem dedup_nodup : ∀ (l ks : List Int), (l.foldl PyProof.Rows.step_dedup ks).length ≤ ks.length + l.length
  | [], ks => by simp
  | a :: l, ks => by
    have h := dedup_nodup l (PyProof.Rows.step_dedup ks a)
    have e : (PyProof.Rows.step_dedup ks a).length ≤ ks.length + 1 := by
      unfold PyProof.Rows.step_dedup
      split <;> simp
    simp only [List.foldl_cons, List.length_cons]
    omega
theorem dedup_len : ∀ (l ks : List Int), ks.Nodup → ((l.foldl PyProof.Rows.step_dedup ks).length = ks.length + l.length ↔ (ks ++ l).Nodup)
  | [], ks, h => by simpa using h
  | a :: l, ks, h => by
    simp only [List.foldl_cons, List.length_cons]
    by_cases m : a ∈ ks
    · have e : PyProof.Rows.step_dedup ks a = ks := by
        unfold PyProof.Rows.step_dedup
        rw [if_pos (by simpa using m)]
      rw [e]
      have := dedup_nodup l ks
      constructor
      · intro z
        omega
      · intro z
        exact absurd rfl ((List.nodup_append.mp z).2.2 a m a List.mem_cons_self)
    · have e : PyProof.Rows.step_dedup ks a = ks ++ [a] := by
        unfold PyProof.Rows.step_dedup
        rw [if_neg (by simpa using m)]
      rw [e]
      have hn : (ks ++ [a]).Nodup := List.nodup_append.mpr ⟨h, by simp, fun x hx y hy => by
        rw [List.mem_singleton.mp hy]
        exact fun z => m (z ▸ hx)⟩
      have := dedup_len l (ks ++ [a]) hn
      rw [List.length_append, List.append_assoc] at this
      rw [← show [a] ++ l = a :: l from rfl, ← this]
      simp
      omega
theorem dedup_iff (l : List Nat) : (dedupI (l.map fun (n : Nat) => (n : Int))).length = l.length ↔ l.Nodup := by
  have := dedup_len (l.map fun (n : Nat) => (n : Int)) [] (by simp)
  unfold dedupI
  rw [List.length_map, List.nil_append] at this
  rw [show ([] : List Int).length + l.length = l.length by simp] at this
  rw [this]
  constructor
  · exact fun h => List.Pairwise.of_map _ (fun a b h e => h (by rw [e])) h
  · exact fun h => List.Pairwise.map _ (fun a b h e => h (by omega)) h
/-! ### dicts once more -/
theorem putK_kd_old {b : V} {t : Nat} {row : List Nat} (h : t ∈ row) : putK (kd row b) (Sum.inl (t : Int)) b = kd row b := by
  unfold putK
  rw [valV_any, valV_kd, if_pos h]
  show (kd row b).map _ = kd row b
  unfold kd
  rw [List.map_map]
  refine List.map_congr_left fun x _ => ?_
  show (if ((Sum.inl (x : Int) : Key) = Sum.inl (t : Int)) then _ else _) = _
  split <;> rfl
theorem putK_kd_vis {b : V} {t : Nat} {row : List Nat} : putK (kd row b) (Sum.inl (t : Int)) b = kd (vis1 row t) b := by
  unfold vis1
  by_cases h : t ∈ row
  · rw [if_pos h, putK_kd_old h]
  · rw [if_neg h, putK_kd h]
theorem kp_snd (ps : List (Nat × Nat)) : (kp ps).map (·.2) = nl (ps.map (·.2)) := by
  unfold kp nl
  rw [List.map_map, List.map_map]
  rfl
end Nk
/-! ## W7: free_spread, found_likeness -/
namespace Nk
open PySem PySem.Spec PyProof.Rows L2 Evl

theorem findSome_none_of {α β : Type} {f : α → Option β} {l : List α} (h : ∀ x ∈ l, f x = none) : l.findSome? f = none := by
  rw [List.findSome?_eq_none_iff]
  exact h
theorem findSome_range {β : Type} {f : Nat → Option β} {n i : Nat} {b : β} (hi : i < n) (h : ∀ j < i, f j = none) (hp : f i = some b) : (List.range n).findSome? f = some b := by
  have e : List.range n = List.range i ++ (List.range (n - i)).map (i + ·) := by
    have := List.range_add (n := i) (m := n - i)
    rwa [show i + (n - i) = n by omega] at this
  rw [e, List.findSome?_append, findSome_none_of fun x hx => h x (List.mem_range.mp hx)]
  rw [show n - i = (n - i - 1) + 1 by omega, List.range_succ_eq_map, List.map_cons, List.findSome?_cons]
  rw [show i + 0 = i from rfl, hp]
  rfl
section
variable {K : PySem.W.Frag} {σ : L2.St} {H H' : Hp} {td : TE}
theorem ev_notN {x : V} (h : Ev td σ H x) : Ev (tOp (fun x y H Q => y = .non ∧ Q (.bl (!decide (x = .non))) H) td (tC .non)) σ H (.bl (!decide (x = .non))) := fun H1 e Q q => h H1 e _ fun H2 e2 => ⟨rfl, q H2 e2⟩
theorem ev_isN {x : V} (h : Ev td σ H x) : Ev (tOp (fun x y H Q => y = .non ∧ Q (.bl (decide (x = .non))) H) td (tC .non)) σ H (.bl (decide (x = .non))) := fun H1 e Q q => h H1 e _ fun H2 e2 => ⟨rfl, q H2 e2⟩
theorem ev_distinct {p : Addr} {ps : List (Nat × Nat)} (h : Ev td σ H (.ref p)) (hp : H p = some (.dK (kp ps))) (hz : ps.length ≤ 4000) : Ev (tLenSetD K (tListVals td)) σ H (.int ((dedupI ((ps.map (·.2)).map fun (n : Nat) => (n : Int))).length : Nat)) := fun H1 e Q q =>
  h H1 e _ fun H2 e2 => ⟨p, kp ps, rfl, e2 _ _ (e _ _ hp), fun a ha => ⟨a, (ps.map (·.2)).map fun (n : Nat) => (n : Int), rfl, by rw [← nl_ints, ← kp_snd]; exact sq_of upd_same, by simpa using hz, q _ (e2.trans (Ex.new ha))⟩⟩
end
theorem freeSp_congr {s t : Net} {n m x : Nat} {a b : List Nat} (h : ∀ y, y ∈ a ↔ y ∈ b) : freeSp s t n m x a = freeSp s t n m x b := by
  unfold freeSp
  congr 1
  funext y
  by_cases m : y ∈ a
  · rw [if_pos m, if_pos ((h y).mp m)]
  · rw [if_neg m, if_neg (fun z => m ((h y).mpr z))]
def spFree (K : PySem.W.Frag) : Sp := fun vs H Q _ => ∃ (v u : V) (d : Addr) (n m : Nat) (s t : Net) (x : Nat) (tk : List Nat), vs = [v, nv x, u, .ref d] ∧ Dp K H v (encNet s) ∧ Dp K H u (encNet t) ∧ Form n s ∧ Form m t ∧ n ≤ 1000 ∧ m ≤ 1000 ∧ x < n ∧
  H d = some (.dK (kd tk (.bl true))) ∧ RetM (freeSp s t n m x tk) H Q
def spFound (K : PySem.W.Frag) : Sp := fun vs H Q _ => ∃ (v u : V) (n m : Nat) (s t : Net), vs = [v, u] ∧ Dp K H v (encNet s) ∧ Dp K H u (encNet t) ∧ Back n s ∧ Form m t ∧ n ≤ 1000 ∧ m ≤ 1000 ∧ RetA K (.d (optR (foundL s t n m))) H Q
section
variable {P : Program} {w : World} {K : PySem.W.Frag} {mg : Str → Option Value} {base : Heap}
theorem sc_free_spread : FnScope ["net", "flag", "other_net", "taken", "start", "images"] ["net", "flag", "other_net", "taken"] (defScope (top 29)) := ⟨rfl, rfl, rfl, by decide +kernel, rfl, by decide +kernel, by decide +kernel⟩
theorem kn_free_spread (T : Txt K mg) (G_spread : Kn P w K mg base CX0 1 "spread" ["net", "flag", "other_net", "start"] (spMatch K)) : Kn P w K mg base CX0 2 "free_spread" ["net", "flag", "other_net", "taken"] (spFree K) := by
  obtain ⟨f, fd, F, hm⟩ := (T.df 19 (p := (29, "free_spread")) rfl)
  refine kn_ok F hm sc_free_spread (fun _ _ _ _ _ _ us hl => match us, hl with | [_, _, _, _], _ => rfl) (fun vs H Q E h => ?_) (fun cdv A outer s H vs Q E hr h => ?_)
  · obtain ⟨v, u, d, n, m, s, t, x, tk, rfl, _⟩ := h
    rfl
  · obtain ⟨v, u, d, n, m, s, t, x, tk, rfl, hN, hM, F, G, hn, hm, hx, hd, q⟩ := h
    refine ⟨_, (pss_cons (ps_for PassesOwn.never rfl (pi_range1 rfl T.range (pa_cons (pe_callB (cK_len (K := K) (by rfl)) (by rfl) T.len bt_len (pa_cons (pe_ix (ixK_tup (K := K) (by rfl)) (pv 2) pe_int (fun _ _ => rfl)) pa_nil)) pa_nil)) (pg_name (i := 4) sc_free_spread.nd rfl (by first | exact Or.inl rfl | exact Or.inr rfl))
  (pss_one (ps_if (pt_cmp (pc_dnotin (hu_of hr) (pv 4) (pv 3)))
  (pss_cons (ps_set (i := 5) sc_free_spread.nd rfl (Or.inl rfl) (pe_kn G_spread (hr.mono (by decide)) (by rfl) pass0 (pa_cons (pv 0) (pa_cons (pv 1) (pa_cons (pv 2) (pa_cons (pv 4) pa_nil))))))
  (pss_one (ps_if (PW.pt (pw_and (pt_cmpR op_notN (pv 5) pe_non (nomark _)) (pw_and1 (pt_cmpR op_eq (pe_lenSetD (by rfl) T.len (by rfl) T.set (pe_listVals rfl (pv 5) (by rfl) T.list)) (pe_callB call_lenD (by rfl) T.len bt_len (pa_cons (pv 5) pa_nil)) (nomark _)))))
  (pss_one (ps_ret (pv 5)))
  pss_nil)))
  pss_nil)))
  (pss_one (ps_ret pe_non))), ?_⟩
    refine q_forR1 (n := m) (ea_cons (g_ev (g_toV (g_len0 G (g_var rfl hM)))) ea_nil) (by omega)
      (fun i σ H' => ∃ (y4 y5 : Option V), σ = [some v, some (nv x), some u, some (.ref d), y4, y5] ∧ Ex H H' ∧ ∀ j < i, (if j ∈ tk then none else okM s t n x j) = none)
      (fun H2 e2 => ⟨none, none, rfl, e2, fun j hj => by omega⟩) (fun i σ' H' hi hP => ?_) (fun σ' H' hP => ?_)
    · obtain ⟨y4, y5, rfl, e, hb⟩ := hP
      have him : i < m := by omega
      have next : (if i ∈ tk then none else okM s t n x i) = none → ∀ j < i + 1, (if j ∈ tk then none else okM s t n x j) = none := fun h j hj => by
        rcases Nat.lt_or_ge j i with h1 | h1
        · exact hb j h1
        · rw [show j = i by omega]; exact h
      refine s_when (et_notin (e _ _ hd) (ev_var rfl) (ev_var rfl)) (fun hc H4 e4 => ?_) (fun hc H4 e4 => ?_)
      · have hnt : i ∉ tk := by
          intro z
          rw [valV_kd, if_pos z] at hc
          cases hc
        have eh := e.trans e4
        refine ⟨v, rfl, nv x, rfl, u, rfl, nv i, rfl, ?_⟩
        refine ⟨v, u, n, m, s, t, x, i, rfl, hN.mono eh, hM.mono eh, F, G, hn, hm, hx, him, ?_⟩
        cases hmt : mtch s t n x i with
        | none =>
          intro H5 e5
          have hok : okM s t n x i = none := by unfold okM; rw [hmt]
          refine s_when (b := false) (et_is (et_and (a := false) (b := false) (et_test (ev_is (ev_notN (ev_var (v := .non) rfl)) rfl)) (fun z => by cases z)) rfl) (fun z => by cases z) (fun _ H6 e6 => ?_)
          exact ⟨_, _, rfl, (eh.trans e5).trans e6, next (by rw [if_neg hnt]; exact hok)⟩
        | some ps =>
          intro p H5 p0 e5 hp
          obtain ⟨ok, _⟩ := mtch_ok F G hx him hmt
          have hpl := ok.len
          have eh5 := eh.trans e5
          refine s_when (b := decide ((ps.map (·.2)).Nodup)) (et_is (et_and (a := true) (b := decide ((ps.map (·.2)).Nodup)) (et_test (ev_is (ev_notN (ev_var (v := .ref p) rfl)) rfl)) (fun _ => et_test (ev_is (ev_op (ev_distinct (K := K) (ev_var rfl) hp (by omega)) (ev_lenD hp (ev_var rfl)) (rv_eq rfl)) ?_))) (by simp)) (fun hb2 H6 e6 => ?_) (fun hb2 H6 e6 => ?_)
          · have h1 := dedup_iff (ps.map (·.2))
            rw [List.length_map] at h1
            rw [kp_len]
            congr 1
            rw [decide_eq_decide]
            rw [← h1]
            constructor
            · intro z
              have := V.int.inj z
              omega
            · intro z
              rw [z]
          · have hnd := of_decide_eq_true hb2
            have hok : okM s t n x i = some ps := by
              unfold okM
              rw [hmt]
              exact if_pos hnd
            have hfr : freeSp s t n m x tk = some ps := findSome_range him hb (by rw [if_neg hnt]; exact hok)
            rw [hfr] at q
            exact s_ret (ev_var rfl) fun H7 e7 => q p H7 (fresh_back eh p0) ((eh5.trans e6).trans e7) (e7 _ _ (e6 _ _ hp))
          · have hnd := of_decide_eq_false hb2
            have hok : okM s t n x i = none := by
              unfold okM
              rw [hmt]
              exact if_neg hnd
            exact ⟨_, _, rfl, eh5.trans e6, next (by rw [if_neg hnt]; exact hok)⟩
      · have hmt : i ∈ tk := by
          by_cases z : i ∈ tk
          · exact z
          · rw [valV_kd, if_neg z] at hc
            cases hc
        exact ⟨_, _, rfl, e.trans e4, next (if_pos hmt)⟩
    · obtain ⟨y4, y5, rfl, e, hb⟩ := hP
      rw [Int.toNat_natCast] at hb
      have hfr : freeSp s t n m x tk = none := findSome_none_of fun y hy => hb y (List.mem_range.mp hy)
      rw [hfr] at q
      exact s_ret ev_c fun H7 e7 => q H7 (e.trans e7)
theorem sc_found_likeness : FnScope ["net", "other_net", "many", "images", "taken", "flag", "found", "here", "there"] ["net", "other_net"] (defScope (top 30)) := ⟨rfl, rfl, rfl, by decide +kernel, rfl, by decide +kernel, by decide +kernel⟩
theorem kn_found_likeness (T : Txt K mg) (G_free_spread : Kn P w K mg base CX0 2 "free_spread" ["net", "flag", "other_net", "taken"] (spFree K)) : Kn P w K mg base CX0 3 "found_likeness" ["net", "other_net"] (spFound K) := by
  obtain ⟨f, fd, F, hm⟩ := (T.df 20 (p := (30, "found_likeness")) rfl)
  refine kn_ok F hm sc_found_likeness (fun _ _ _ _ _ _ us hl => match us, hl with | [_, _], _ => rfl) (fun vs H Q E h => ?_) (fun cdv A outer s H vs Q E hr h => ?_)
  · obtain ⟨v, u, n, m, s, t, rfl, _⟩ := h
    rfl
  · obtain ⟨v, u, n, m, s, t, rfl, hN, hM, B, G, hn, hm, q⟩ := h
    have F := B.toForm
    refine ⟨_, (pss_cons (ps_set (i := 2) sc_found_likeness.nd rfl (Or.inl rfl) (pe_callB (cK_len (K := K) (by rfl)) (by rfl) T.len bt_len (pa_cons (pe_ix (ixK_tup (K := K) (by rfl)) (pv 0) pe_int (fun _ _ => rfl)) pa_nil)))
  (pss_cons (ps_if (pt_cmpR op_ne (pe_callB (cK_len (K := K) (by rfl)) (by rfl) T.len bt_len (pa_cons (pe_ix (ixK_tup (K := K) (by rfl)) (pv 1) pe_int (fun _ _ => rfl)) pa_nil)) (pv 2) (nomark _))
  (pss_one (ps_ret pe_non))
  pss_nil)
  (pss_cons (ps_set (i := 3) sc_found_likeness.nd rfl (Or.inr rfl) pe_dnewK)
  (pss_cons (ps_set (i := 4) sc_found_likeness.nd rfl (Or.inl rfl) pe_dnewK)
  (pss_cons (ps_for PassesOwn.never rfl (pi_range1 rfl T.range (pa_cons (pv 2) pa_nil)) (pg_name (i := 5) sc_found_likeness.nd rfl (by first | exact Or.inl rfl | exact Or.inr rfl))
  (pss_one (ps_if (pt_cmp (pc_dnotin (hu_of hr) (pv 5) (pv 3)))
  (pss_cons (ps_set (i := 6) sc_found_likeness.nd rfl (Or.inl rfl) (pe_kn G_free_spread (hr.mono (by decide)) (by rfl) pass0 (pa_cons (pv 0) (pa_cons (pv 5) (pa_cons (pv 1) (pa_cons (pv 4) pa_nil))))))
  (pss_cons (ps_if (pt_cmpR op_isN (pv 6) pe_non (nomark _))
  (pss_one (ps_ret pe_non))
  pss_nil)
  (pss_one (ps_lock (ps_for PassesOwn.never rfl (pi_items (pv 6)) (pg_tup rfl (pgs_cons (pg_name (i := 7) sc_found_likeness.nd rfl (by first | exact Or.inl rfl | exact Or.inr rfl)) (pgs_cons (pg_name (i := 8) sc_found_likeness.nd rfl (by first | exact Or.inl rfl | exact Or.inr rfl)) pgs_nil)))
  (pss_cons (ps_dput (hu_of hr) (pv 3) (pv 7) (pv 8) rfl)
  (pss_one (ps_dput (hu_of hr) (pv 4) (pv 8) pe_bl rfl))))))))
  pss_nil)))
  (pss_one (ps_ret (pe_callTy (cK_tuple (K := K) (by rfl)) (by rfl) T.tuple bt_tuple (pa_cons (pe_lc (own := [("flag", 5)]) (g := (gName 5)) (by rfl) sc_found_likeness.nd (pi_range1 rfl T.range (pa_cons (pv 2) pa_nil)) (blkOk_by (by kernel_rfl)) (fun _ _ _ _ _ => (pg_name (i := 5) sc_found_likeness.nd rfl (by first | exact Or.inl rfl | exact Or.inr rfl))) (fun _ _ _ _ _ => pts_nil) (fun _ _ _ _ _ => (pe_dget (hu_of hr) (pv 3) (pv 5) (fun _ _ => rfl)))) pa_nil))))))))), ?_⟩
    refine asgI (n := n) (g_len0 F (g_var rfl hN)) fun H1 e1 => ?_
    refine q_when (et_of (K := K) (g_op (g_len0 G (g_var rfl (show Is K H1 u (.d (encNet t)) from hM.mono e1))) (g_vi (n := (n : Int)) rfl) rg_neI)) (fun hb H2 e2 => ?_) (fun hb H2 e2 => ?_)
    · have hne : m ≠ n := by
        intro z
        simp [z] at hb
      have hfl : foundL s t n m = none := if_pos hne
      rw [hfl] at q
      exact retA (K := K) g_non (fun v H5 e5 hv => q v H5 ((e1.trans e2).trans e5) hv) rfl
    have hmn : m = n := by
      have h : (m : Int) = n := by simpa using hb
      omega
    subst hmn
    refine asgD0 fun im im0 => ?_
    refine asgD0 fun tk tk0 => ?_
    have nit : im ≠ tk := fun z => by rw [← z, upd_same] at tk0; cases tk0
    have eh2 := e1.trans e2
    have imH : H im = none := fresh_back eh2 im0
    have tkH2 : H2 tk = none := by rwa [upd_ne (Ne.symm nit)] at tk0
    have tkH : H tk = none := fresh_back eh2 tkH2
    refine q_forR1 (n := m) (ea_cons (ev_var rfl) ea_nil) (by omega)
      (fun i σ H' => ∃ (y5 y6 y7 y8 : Option V) (im' : List (Nat × Nat)) (tkl : List Nat), σ = [some v, some u, some (nv m), some (.ref im), some (.ref tk), y5, y6, y7, y8] ∧ Ex H H' ∧ greedyTo s t m m i = some im' ∧ H' im = some (.dK (kp im')) ∧ H' tk = some (.dK (kd tkl (.bl true))) ∧
        tkl.Nodup ∧ ∀ y, y ∈ tkl ↔ y ∈ im'.map (·.2))
      (fun H3 e3 => ⟨none, none, none, none, [], [], rfl, (Ex.mut (Ex.mut eh2 imH) tkH).trans e3, rfl, e3 _ _ (by rw [upd_ne nit]; exact upd_same), e3 _ _ upd_same, by simp, by simp⟩) (fun i σ' H' hi hP => ?_) (fun σ' H' hP => ?_)
    · obtain ⟨y5, y6, y7, y8, im', tkl, rfl, e, hgr, him, htk, nd, mem⟩ := hP
      have hin : i < m := by omega
      obtain ⟨hkeys, ok⟩ := greedyTo_keys B G (by omega) hgr
      have hpl := ok.len
      have htl : tkl.length ≤ m := nodup_le nd fun y hy => by
        obtain ⟨p, hp, rfl⟩ := List.mem_map.mp ((mem y).mp hy)
        exact (ok.lt p hp).2
      refine s_when (et_notin him (ev_var rfl) (ev_var rfl)) (fun hc H4 e4 => ?_) (fun hc H4 e4 => ?_)
      · have hnk : i ∉ im'.map (·.1) := by
          intro z
          obtain ⟨d, hd⟩ := mem_keys_lk z
          rw [valV_kp, hd] at hc
          cases hc
        have eh := e.trans e4
        have hstep : greedyTo s t m m (i + 1) = match freeSp s t m m i tkl with | none => none | some ps => some (im' ++ ps) := by
          rw [greedyTo_succ, hgr, freeSp_congr mem]
          show (if i ∈ im'.map (·.1) then some im' else _) = _
          rw [if_neg hnk]
          all_goals (cases freeSp s t m m i (im'.map (·.2)) <;> rfl)
        refine ⟨v, rfl, nv i, rfl, u, rfl, .ref tk, rfl, ?_⟩
        refine ⟨v, u, tk, m, m, s, t, i, tkl, rfl, hN.mono eh, hM.mono eh, F, G, hn, hm, hin, e4 _ _ htk, ?_⟩
        cases hfs : freeSp s t m m i tkl with
        | none =>
          intro H5 e5
          rw [hfs] at hstep
          have hnone : greedyTo s t m m m = none := by
            have := greedyTo_none hstep (m - (i + 1))
            rwa [show i + 1 + (m - (i + 1)) = m by omega] at this
          have hfl : foundL s t m m = none := by
            unfold foundL
            rw [if_neg (fun z => z rfl), hnone]
            rfl
          rw [hfl] at q
          refine q_when (b := true) (et_test (ev_is (ev_isN (ev_var (v := .non) rfl)) rfl)) (fun _ H6 e6 => ?_) (fun z => by cases z)
          exact retA (K := K) g_non (fun v H7 e7 hv => q v H7 (((eh.trans e5).trans e6).trans e7) hv) rfl
        | some ps =>
          intro p H5 p0 e5 hp
          rw [hfs] at hstep
          have hstep : greedyTo s t m m (i + 1) = some (im' ++ ps) := hstep
          obtain ⟨hk2, ok2⟩ := greedyTo_keys B G (by omega) hstep
          refine q_when (b := false) (et_test (ev_is (ev_isN (ev_var (v := .ref p) rfl)) rfl)) (fun z => by cases z) (fun _ H6 e6 => ?_)
          have him6 := e6 _ _ (e5 _ _ (e4 _ _ him))
          have htk6 := e6 _ _ (e5 _ _ (e4 _ _ htk))
          have hp6 := e6 _ _ hp
          have eh6 := (eh.trans e5).trans e6
          have pH : H p = none := fresh_back eh p0
          have npi : im ≠ p := fun z => by rw [← z, e4 _ _ him] at p0; cases p0
          have npt : tk ≠ p := fun z => by rw [← z, e4 _ _ htk] at p0; cases p0
          refine ⟨p, _, hp6, trivial, fun od => ?_⟩
          refine ⟨.ref p, rfl, p, od, kp ps, rfl, upd_same, ?_⟩
          refine for_pair walk_items (fun j σ2 H7 => ∃ (y7 y8 : Option V) (tk2 : List Nat), σ2 = [some v, some u, some (nv m), some (.ref im), some (.ref tk), some (nv i), some (.ref p), y7, y8] ∧ Ex H H7 ∧ H7 p = some (.frz od (.dK (kp ps))) ∧
              H7 im = some (.dK (kp (im' ++ ps.take j))) ∧ H7 tk = some (.dK (kd tk2 (.bl true))) ∧ tk2.Nodup ∧ ∀ y, y ∈ tk2 ↔ y ∈ (im' ++ ps.take j).map (·.2))
            ⟨y7, y8, tkl, rfl, Ex.mut eh6 pH, upd_same, by rw [upd_ne npi, List.take_zero, List.append_nil]; exact him6, by rw [upd_ne npt]; exact htk6, nd, by rw [List.take_zero, List.append_nil]; exact mem⟩
            (fun j σ2 H7 _ hP => let ⟨_, _, _, _, _, h, _⟩ := hP; h) (fun j c1 c2 σ2 H7 H8 hj h1 h2 hP e8 => ?_) (fun σ2 H7 hP => ?_)
          · obtain ⟨y7, y8, tk2, rfl, e, hpz, him, htk, nd2, mem2⟩ := hP
            rw [kp_len] at hj
            obtain ⟨⟨k1, k2⟩, hk⟩ : ∃ z, ps[j]? = some z := ⟨ps[j], List.getElem?_eq_getElem hj⟩
            have hkp : (kp ps)[j]? = some (Sum.inl (k1 : Int), nv k2) := by unfold kp; rw [List.getElem?_map, hk]; rfl
            simp only [hkp] at h1 h2
            have h1 : some (nv k1) = some c1 := h1
            have h2 : some (nv k2) = some c2 := h2
            cases h1
            cases h2
            have hnew : lk (im' ++ ps.take j) k1 = none := by
              rw [lk_none]
              intro z
              have hd := ok2.nd
              have e1 : im' ++ ps = (im' ++ ps.take j) ++ ps.drop j := by rw [List.append_assoc, List.take_append_drop]
              rw [e1, List.map_append] at hd
              have hm2 : k1 ∈ (ps.drop j).map (·.1) := by
                refine List.mem_map.mpr ⟨(k1, k2), ?_, rfl⟩
                rw [List.mem_iff_getElem?]
                exact ⟨0, by rw [List.getElem?_drop]; exact hk⟩
              exact (List.nodup_append.mp hd).2.2 k1 z k1 hm2 rfl
            have hl2 : (im' ++ ps).length ≤ m := ok2.len
            have hl3 : (im' ++ ps.take j).length ≤ (im' ++ ps).length := by
              rw [List.length_append, List.length_append, List.length_take]
              omega
            refine putD (e8 _ _ him) (ev_var (v := nv k2) rfl) (ev_var rfl) (ev_var rfl) (by rw [kp_len]; omega) fun H9 e9 => ?_
            have htk9 : (upd H9 im (.dK (putK (kp (im' ++ ps.take j)) (Sum.inl (k1 : Int)) (nv k2)))) tk = some (.dK (kd tk2 (.bl true))) := by
              rw [upd_ne nit.symm]
              exact e9 _ _ (e8 _ _ htk)
            have htl2 : tk2.length ≤ m := nodup_le nd2 fun y hy => by
              obtain ⟨p, hp, rfl⟩ := List.mem_map.mp ((mem2 y).mp hy)
              refine (ok2.lt p ?_).2
              rcases List.mem_append.mp hp with hp | hp
              · exact List.mem_append.mpr (.inl hp)
              · exact List.mem_append.mpr (.inr (List.mem_of_mem_take hp))
            refine putD1 htk9 ev_c (ev_var rfl) (ev_var (v := nv k2) rfl) (by rw [kd_len]; omega) fun H10 e10 => ?_
            have etake : im' ++ ps.take (j + 1) = (im' ++ ps.take j) ++ [(k1, k2)] := by
              rw [List.append_assoc, List.take_add_one, hk]
              rfl
            refine ⟨_, _, vis1 tk2 k2, rfl, Ex.mut ((Ex.mut ((e.trans e8).trans e9) imH).trans e10) tkH, ?_, ?_, ?_, vis1_nodup nd2, ?_⟩
            · rw [upd_ne (Ne.symm npt)]
              refine e10 _ _ ?_
              rw [upd_ne (Ne.symm npi)]
              exact e9 _ _ (e8 _ _ hpz)
            · rw [upd_ne nit, e10 _ _ upd_same, putK_kp hnew, etake]
            · rw [upd_same, putK_kd_vis]
            · intro y
              rw [mem_vis1, mem2, etake, List.map_append (l₂ := [(k1, k2)]), List.mem_append]
              simp
          · obtain ⟨y7, y8, tk2, rfl, e, hpz, him, htk, nd2, mem2⟩ := hP
            rw [kp_len, List.take_length] at him mem2
            refine ⟨hpz, _, _, _, _, im' ++ ps, tk2, rfl, Ex.mut e pH, hstep, ?_, ?_, nd2, mem2⟩
            · rw [upd_ne npi]
              exact him
            · rw [upd_ne npt]
              exact htk
      · have hmk : i ∈ im'.map (·.1) := by
          by_cases z : i ∈ im'.map (·.1)
          · exact z
          · rw [valV_kp, lk_none.mpr z] at hc
            cases hc
        have hstep : greedyTo s t m m (i + 1) = some im' := by
          rw [greedyTo_succ, hgr]
          exact if_pos hmk
        exact ⟨_, _, _, _, im', tkl, rfl, e.trans e4, hstep, e4 _ _ him, e4 _ _ htk, nd, mem⟩
    · obtain ⟨y5, y6, y7, y8, im', tkl, rfl, e, hgr, him, htk, nd, mem⟩ := hP
      rw [Int.toNat_natCast] at hgr
      obtain ⟨hkeys, ok⟩ := greedyTo_keys B G (Nat.le_refl m) hgr
      have hfl : foundL s t m m = some ((List.range m).map fun f => (lk im' f).getD 0) := by
        unfold foundL
        rw [if_neg (fun z => z rfl), hgr]
        rfl
      rw [hfl] at q
      refine retA (K := K) (g_is (g_tupOf (g_lcR1 (n := m) (fun _ => true) (fun i => encN ((lk im' i).getD 0)) (gs_cons (g_vi rfl) gs_nil) (by omega) (fun _ => rfl) (fun _ => rfl) (fun i H2 e2 hi => et_yes) (fun k H5 e5 hk _ => ?_))) ?_) (fun v H7 e7 hv => q v H7 (e.trans e7) hv) rfl
      · have hmem : k ∈ im'.map (·.1) := by
          rw [hkeys]
          exact (partsTo_inv B m (Nat.le_refl m)).all k hk
        obtain ⟨d, hd⟩ := mem_keys_lk hmem
        rw [hd]
        exact g_toD (g_dget (g_vv rfl) (e5 _ _ him) (g_vn rfl) (by rw [valV_kp, hd]; rfl))
      · rw [givenD_range]
        show Nk.A.d (.tuple _) = Nk.A.d (.tuple (((List.range m).map fun f => (lk im' f).getD 0).map encN))
        rw [List.map_map]
        rfl
end
end Nk
/-! ## M4: the order of nets, least readings -/
namespace Nk
open PySem PySem.Spec PyProof.Rows L2 Evl

/-! ### < of data is a strict order -/
theorem dl_irr (x : PyData) : PySem.W.dataLt x x = false := PyProof.Rows.lex_irrefl _
theorem dl_tr {x y z : PyData} (h : PySem.W.dataLt x y = true) (k : PySem.W.dataLt y z = true) : PySem.W.dataLt x z = true := PyProof.Rows.lex_trans _ _ _ h k
theorem dl_neg {x z : PyData} (y : PyData) (h : PySem.W.dataLt x z = true) : PySem.W.dataLt x y = true ∨ PySem.W.dataLt y z = true := PyProof.Rows.lex_negTrans _ _ _ h
theorem dl_asym {x y : PyData} (h : PySem.W.dataLt x y = true) : PySem.W.dataLt y x = false := by
  cases e : PySem.W.dataLt y x with
  | false => rfl
  | true =>
    have := dl_tr h e
    rw [dl_irr] at this
    cases this
theorem dl_tot {x y : PyData} (ha : PySem.W.alike x y = true) (h : PySem.W.dataLt x y = false) (k : PySem.W.dataLt y x = false) : PyData.eqv x y = true := by
  have e : PySem.W.keyToks x = PySem.W.keyToks y := PyProof.Rows.lex_total _ _ h k
  cases q : PyData.eqv x y with
  | true => rfl
  | false =>
    have z := (PySem.W.toks_eqv x y ha).2 q [] [.inl 0]
    rw [e, PySem.W.lex_pre] at z
    have w : PyProof.Rows.lexLt itemOrd (PySem.W.keyToks y) (PySem.W.keyToks y) = false := PyProof.Rows.lex_irrefl _
    rw [w] at z
    cases z
/-! ### nets as data -/
theorem alike_Ns : ∀ l m : List Nat, PySem.W.alikeAll (l.map encN) (m.map encN) = true
  | [], _ => by rw [List.map_nil, PySem.W.alikeAll]
  | _ :: _, [] => by rw [List.map_nil, List.map_cons, PySem.W.alikeAll]
  | a :: l, b :: m => by
    rw [List.map_cons, List.map_cons, PySem.W.alikeAll, alike_Ns l m]
    rfl
theorem alike_R (l m : List Nat) : PySem.W.alike (encR l) (encR m) = true := by
  unfold encR
  rw [PySem.W.alike]
  exact alike_Ns l m
theorem alike_Rs : ∀ l m : List (List Nat), PySem.W.alikeAll (l.map encR) (m.map encR) = true
  | [], _ => by rw [List.map_nil, PySem.W.alikeAll]
  | _ :: _, [] => by rw [List.map_nil, List.map_cons, PySem.W.alikeAll]
  | a :: l, b :: m => by
    rw [List.map_cons, List.map_cons, PySem.W.alikeAll, alike_Rs l m, alike_R]
    rfl
theorem alike_Net (s t : Net) : PySem.W.alike (encNet s) (encNet t) = true := by
  unfold encNet
  rw [PySem.W.alike]
  exact alike_Rs s t
theorem eqv_Ns : ∀ {l m : List Nat}, PyData.eqvAll (l.map encN) (m.map encN) = true ↔ l = m
  | [], [] => by simp [PyData.eqvAll]
  | [], _ :: _ => by simp [PyData.eqvAll]
  | _ :: _, [] => by simp [PyData.eqvAll]
  | a :: l, b :: m => by
    rw [List.map_cons, List.map_cons, PyData.eqvAll, Bool.and_eq_true, eqv_Ns (l := l) (m := m)]
    have : PyData.eqv (encN a) (encN b) = true ↔ a = b := by
      unfold encN
      simp only [PyData.eqv, beq_iff_eq]
      omega
    rw [this]
    simp
theorem eqv_R {l m : List Nat} : PyData.eqv (encR l) (encR m) = true ↔ l = m := by
  unfold encR
  rw [PyData.eqv]
  exact eqv_Ns
theorem eqv_Rs : ∀ {l m : List (List Nat)}, PyData.eqvAll (l.map encR) (m.map encR) = true ↔ l = m
  | [], [] => by simp [PyData.eqvAll]
  | [], _ :: _ => by simp [PyData.eqvAll]
  | _ :: _, [] => by simp [PyData.eqvAll]
  | a :: l, b :: m => by
    rw [List.map_cons, List.map_cons, PyData.eqvAll, Bool.and_eq_true, eqv_Rs (l := l) (m := m), eqv_R]
    simp
theorem eqv_Net {s t : Net} : PyData.eqv (encNet s) (encNet t) = true ↔ s = t := by
  unfold encNet
  rw [PyData.eqv]
  exact eqv_Rs
theorem net_tot {s t : Net} (h : PySem.W.dataLt (encNet s) (encNet t) = false) (k : PySem.W.dataLt (encNet t) (encNet s) = false) : s = t := eqv_Net.mp (dl_tot (alike_Net s t) h k)
/-- depths -/
theorem depthAll_le {k : Nat} : ∀ {ds : List PyData}, (∀ d ∈ ds, d.depth ≤ k) → PyData.depthAll ds ≤ k
  | [], _ => by simp [PyData.depthAll]
  | d :: ds, h => by
    rw [PyData.depthAll]
    exact Nat.max_le.mpr ⟨h d List.mem_cons_self, depthAll_le fun x hx => h x (List.mem_cons_of_mem _ hx)⟩
theorem depth_tup {k : Nat} {ds : List PyData} (h : ∀ d ∈ ds, d.depth ≤ k) : (PyData.tuple ds).depth ≤ k + 1 := by
  rw [PyData.depth]
  have := depthAll_le h
  omega
theorem depth_lst {k : Nat} {ds : List PyData} (h : ∀ d ∈ ds, d.depth ≤ k) : (PyData.list ds).depth ≤ k + 1 := by
  rw [PyData.depth]
  have := depthAll_le h
  omega
theorem depth_N (n : Nat) : (encN n).depth ≤ 1 := by unfold encN; simp [PyData.depth]
theorem depth_R (l : List Nat) : (encR l).depth ≤ 2 := depth_tup fun d hd => by
  obtain ⟨n, _, rfl⟩ := List.mem_map.mp hd
  exact depth_N n
theorem depth_Net (s : Net) : (encNet s).depth ≤ 3 := depth_tup fun d hd => by
  obtain ⟨n, _, rfl⟩ := List.mem_map.mp hd
  exact depth_R n
/-! ### readings -/
theorem renum_len {s : Net} {row : List Nat} : (renum s row).length = s.length := by unfold renum; rw [List.length_map]
theorem renum_form {n : Nat} {s : Net} (F : Form n s) {row : List Nat} (cl : ∀ z ∈ row, ∀ ch ∈ s, ch.getD z 0 ∈ row) : Form row.length (renum s row) := by
  refine ⟨renum_len.trans F.three, fun r hr => ?_, fun r hr x hx => ?_⟩
  · obtain ⟨ch, _, rfl⟩ := List.mem_map.mp hr
    rw [List.length_map]
  · obtain ⟨ch, hc, rfl⟩ := List.mem_map.mp hr
    obtain ⟨z, hz, rfl⟩ := List.mem_map.mp hx
    exact List.idxOf_lt_length_iff.mpr (cl z hz ch hc)
def rdg (s : Net) (n x : Nat) : Net := renum s (bfs s n x)
theorem rdg_form {n x : Nat} {s : Net} (F : Form n s) (hx : x < n) : Form (bfs s n x).length (rdg s n x) := renum_form F (bfs_closed F hx)
/-- the first of the least -/
def lessOf (a b : Net) : Net := if PySem.W.dataLt (encNet b) (encNet a) = true then b else a
def leastOf (a : Net) (l : List Net) : Net := l.foldl lessOf a
def leastRd (s : Net) (n : Nat) : List Nat → Net
  | [] => []
  | x :: xs => leastOf (rdg s n x) (xs.map (rdg s n))
theorem minD_nets (a : Net) : ∀ l : List Net, PySem.W.minD (encNet a) (l.map encNet) = encNet (leastOf a l) := by
  intro l
  unfold PySem.W.minD leastOf
  induction l generalizing a with
  | nil => rfl
  | cons b l ih =>
    rw [List.map_cons, List.foldl_cons, List.foldl_cons, ← ih]
    congr 1
    unfold lessOf
    split <;> rfl
theorem leastOf_spec : ∀ (l : List Net) (a : Net), leastOf a l ∈ a :: l ∧ ∀ b ∈ a :: l, PySem.W.dataLt (encNet b) (encNet (leastOf a l)) = false
  | [], a => ⟨List.mem_cons_self, fun b hb => by
    rw [List.mem_singleton.mp hb]
    exact dl_irr _⟩
  | c :: l, a => by
    obtain ⟨h1, h2⟩ := leastOf_spec l (lessOf a c)
    have e : leastOf a (c :: l) = leastOf (lessOf a c) l := rfl
    rw [e]
    have hle : ∀ b, b = a ∨ b = c → PySem.W.dataLt (encNet b) (encNet (lessOf a c)) = false := by
      intro b hb
      unfold lessOf
      by_cases q : PySem.W.dataLt (encNet c) (encNet a) = true
      · rw [if_pos q]
        rcases hb with rfl | rfl
        · exact dl_asym q
        · exact dl_irr _
      · rw [if_neg q]
        rcases hb with rfl | rfl
        · exact dl_irr _
        · simpa using q
    have hmem : lessOf a c = a ∨ lessOf a c = c := by
      unfold lessOf
      split
      · exact .inr rfl
      · exact .inl rfl
    refine ⟨?_, fun b hb => ?_⟩
    · rcases List.mem_cons.mp h1 with h | h
      · rw [h]
        rcases hmem with q | q
        · rw [q]; exact List.mem_cons_self
        · rw [q]; exact List.mem_cons_of_mem _ List.mem_cons_self
      · exact List.mem_cons_of_mem _ (List.mem_cons_of_mem _ h)
    · have top := h2 (lessOf a c) List.mem_cons_self
      rcases List.mem_cons.mp hb with h | h
      · cases q : PySem.W.dataLt (encNet b) (encNet (leastOf (lessOf a c) l)) with
        | false => rfl
        | true =>
          rcases dl_neg (encNet (lessOf a c)) q with z | z
          · rw [hle b (.inl h)] at z
            cases z
          · rw [top] at z
            cases z
      · rcases List.mem_cons.mp h with h | h
        · cases q : PySem.W.dataLt (encNet b) (encNet (leastOf (lessOf a c) l)) with
          | false => rfl
          | true =>
            rcases dl_neg (encNet (lessOf a c)) q with z | z
            · rw [hle b (.inr h)] at z
              cases z
            · rw [top] at z
              cases z
        · exact h2 b (List.mem_cons_of_mem _ h)
theorem leastRd_spec {s : Net} {n : Nat} {P : List Nat} (h : P ≠ []) : (∃ x ∈ P, leastRd s n P = rdg s n x) ∧ ∀ x ∈ P, PySem.W.dataLt (encNet (rdg s n x)) (encNet (leastRd s n P)) = false := by
  cases P with
  | nil => exact absurd rfl h
  | cons x xs =>
    obtain ⟨h1, h2⟩ := leastOf_spec (xs.map (rdg s n)) (rdg s n x)
    have e : rdg s n x :: xs.map (rdg s n) = (x :: xs).map (rdg s n) := rfl
    rw [e] at h1 h2
    refine ⟨?_, fun y hy => h2 _ (List.mem_map.mpr ⟨y, hy, rfl⟩)⟩
    obtain ⟨y, hy, he⟩ := List.mem_map.mp h1
    exact ⟨y, hy, he.symm⟩
/-- least readings go by the set of flags alone -/
theorem leastRd_set {s t : Net} {n m : Nat} {P Q : List Nat} (hP : P ≠ []) (hQ : Q ≠ []) (h1 : ∀ x ∈ P, ∃ y ∈ Q, rdg s n x = rdg t m y) (h2 : ∀ y ∈ Q, ∃ x ∈ P, rdg s n x = rdg t m y) : leastRd s n P = leastRd t m Q := by
  obtain ⟨⟨x, hx, ex⟩, lx⟩ := leastRd_spec (s := s) (n := n) hP
  obtain ⟨⟨y, hy, ey⟩, ly⟩ := leastRd_spec (s := t) (n := m) hQ
  refine net_tot ?_ ?_
  · obtain ⟨y', hy', e⟩ := h1 x hx
    rw [ex, e]
    exact ly y' hy'
  · obtain ⟨x', hx', e⟩ := h2 y hy
    rw [ey, ← e]
    exact lx x' hx'
theorem leastRd_srt {s : Net} {n : Nat} {P : List Nat} (hP : P ≠ []) : leastRd s n (srt P) = leastRd s n P := by
  refine leastRd_set (fun e => hP ?_) hP (fun x hx => ⟨x, mem_srt.mp hx, rfl⟩) (fun y hy => ⟨y, mem_srt.mpr hy, rfl⟩)
  have := srt_len P
  rw [e] at this
  exact List.length_eq_zero_iff.mp this.symm
/-! ### the sorted pairs -/
def encP (p : Nat × Net) : PyData := .tuple [encN p.1, encNet p.2]
def prsOf (s : Net) (n : Nat) : List (Nat × Net) := (partsOf s n).map fun r => (r.length, leastRd s n r)
def sprs (s : Net) (n : Nat) : List (Nat × Net) := (prsOf s n).mergeSort (PySem.W.dataLe false encP)
theorem sprs_enc (s : Net) (n : Nat) : ((prsOf s n).map encP).mergeSort (PySem.W.dataLe false id) = (sprs s n).map encP :=
  (PySem.W.sort_maps (r := PySem.W.dataLe false encP) (s := PySem.W.dataLe false id) encP (l := prsOf s n) (fun _ _ _ _ => rfl)).symm
theorem sprs_perm (s : Net) (n : Nat) : (sprs s n).Perm (prsOf s n) := List.mergeSort_perm _ _
theorem alike_P (p q : Nat × Net) : PySem.W.alike (encP p) (encP q) = true := by
  unfold encP
  rw [PySem.W.alike, PySem.W.alikeAll, PySem.W.alikeAll, alike_Net]
  rfl
theorem depth_P (p : Nat × Net) : (encP p).depth ≤ 4 := depth_tup fun d hd => by
  rcases List.mem_cons.mp hd with rfl | hd
  · exact Nat.le_trans (depth_N _) (by decide)
  · rw [List.mem_singleton.mp hd]
    exact depth_Net _
theorem flat_P (p : Nat × Net) : flatT (encP p) = true := by
  unfold encP
  rw [flatT]
  exact flatTs_of fun d hd => by
    rcases List.mem_cons.mp hd with rfl | hd
    · rfl
    · rw [List.mem_singleton.mp hd]
      exact flat_Net _
/-! ### laid one behind another -/
def layStep (acc p : Nat × Net) : Nat × Net := (acc.1 + p.1, laid acc.1 acc.2 p.2)
def layAll : List (Nat × Net) → Nat × Net
  | [] => (0, [])
  | p :: ps => ps.foldl layStep p
def leastNet (s : Net) (n : Nat) : Net := (layAll (sprs s n)).2
theorem laid_form {n m : Nat} {s t : Net} (F : Form n s) (G : Form m t) : Form (n + m) (laid n s t) := by
  refine ⟨by unfold laid; simp, fun r hr => ?_, fun r hr x hx => ?_⟩
  · obtain ⟨c, hc, rfl⟩ := List.mem_map.mp hr
    have hc := List.mem_range.mp hc
    obtain ⟨_, _, e1, l1, _⟩ := F.get hc
    obtain ⟨_, _, e2, l2, _⟩ := G.get hc
    rw [List.length_append, List.length_map, e1, e2, l1, l2]
  · obtain ⟨c, hc, rfl⟩ := List.mem_map.mp hr
    have hc := List.mem_range.mp hc
    obtain ⟨_, _, e1, l1, m1⟩ := F.get hc
    obtain ⟨_, _, e2, l2, m2⟩ := G.get hc
    rw [e1, e2] at hx
    rcases List.mem_append.mp hx with hx | hx
    · have := F.lt _ m1 x hx
      omega
    · obtain ⟨y, hy, rfl⟩ := List.mem_map.mp hx
      have := G.lt _ m2 y hy
      omega
theorem lay_form : ∀ {ps : List (Nat × Net)} {a : Nat × Net}, Form a.1 a.2 → (∀ p ∈ ps, Form p.1 p.2) → Form (ps.foldl layStep a).1 (ps.foldl layStep a).2
  | [], a, h, _ => h
  | p :: ps, a, h, hs => lay_form (ps := ps) (a := layStep a p) (laid_form h (hs p List.mem_cons_self)) fun q hq => hs q (List.mem_cons_of_mem _ hq)
theorem lay_len : ∀ {ps : List (Nat × Net)} {a : Nat × Net}, (ps.foldl layStep a).1 = a.1 + (ps.map (·.1)).sum
  | [], a => by simp
  | p :: ps, a => by
    rw [List.foldl_cons, lay_len (ps := ps)]
    show a.1 + p.1 + _ = a.1 + (p.1 + _)
    rw [Nat.add_assoc]
    rfl
section
variable {n : Nat} {s : Net}
theorem part_ne (B : Back n s) {r : List Nat} (hr : r ∈ partsOf s n) : r ≠ [] := by
  obtain ⟨f, hf, rfl, _⟩ := (partsOf_inv B).row r hr
  obtain ⟨t, e⟩ := bfs_head B.toForm hf
  rw [e]
  exact fun z => by cases z
theorem part_bfs (B : Back n s) {r : List Nat} (hr : r ∈ partsOf s n) {x : Nat} (hx : x ∈ r) : (bfs s n x).length = r.length ∧ x < n := by
  obtain ⟨f, hf, rfl, _⟩ := (partsOf_inv B).row r hr
  have hxn := bfs_lt B.toForm hf x hx
  have hp : (bfs s n x).Perm (bfs s n f) := (List.perm_ext_iff_of_nodup (bfs_nodup B.toForm hxn) (bfs_nodup B.toForm hf)).mpr (bfs_same B hf hx)
  exact ⟨hp.length_eq, hxn⟩
theorem least_form (B : Back n s) {r : List Nat} (hr : r ∈ partsOf s n) : Form r.length (leastRd s n r) := by
  obtain ⟨⟨x, hx, e⟩, _⟩ := leastRd_spec (s := s) (n := n) (part_ne B hr)
  obtain ⟨hl, hxn⟩ := part_bfs B hr hx
  rw [e, ← hl]
  exact rdg_form B.toForm hxn
theorem prs_form (B : Back n s) : ∀ p ∈ sprs s n, Form p.1 p.2 ∧ p.1 ≤ n ∧ 0 < p.1 := by
  intro p hp
  obtain ⟨r, hr, rfl⟩ := List.mem_map.mp ((sprs_perm s n).mem_iff.mp hp)
  refine ⟨least_form B hr, ?_, ?_⟩
  · obtain ⟨f, hf, rfl, _⟩ := (partsOf_inv B).row r hr
    exact bfs_len B.toForm hf
  · exact List.length_pos_iff.mpr (part_ne B hr)
theorem prs_sum (B : Back n s) : ((sprs s n).map (·.1)).sum ≤ n := by
  rw [((sprs_perm s n).map _).sum_nat]
  unfold prsOf
  rw [List.map_map]
  have e : ((partsOf s n).map ((fun p : Nat × Net => p.1) ∘ fun r => (r.length, leastRd s n r))).sum = (partsOf s n).flatten.length := by
    rw [List.length_flatten]
    rfl
  rw [e]
  exact nodup_le (partsOf_inv B).nd (partsOf_inv B).lt
theorem sprs_len (s : Net) (n : Nat) : (sprs s n).length = (partsOf s n).length := by
  rw [(sprs_perm s n).length_eq]
  unfold prsOf
  rw [List.length_map]
theorem parts_ne (B : Back n s) (hn : 0 < n) : partsOf s n ≠ [] := fun e => by
  have := (partsOf_inv B).all 0 hn
  rw [e] at this
  simp at this
end
end Nk
/-! ## W8: least readings and least parts -/
namespace Nk
open PySem PySem.Spec PyProof.Rows L2 Evl

section
variable {K : PySem.W.Frag} {σ : L2.St} {H H' : Hp} {te tf tl th : TE} {ds : List PyData} {D : Ends} {tu tz : TS} {g : TG}
theorem dpDrop {vs : List V} {ds : List PyData} (i : Nat) (h : DpAll K H vs ds) : DpAll K H (vs.drop i) (ds.drop i) := h.drop i
/-- xs[lo:] -/
theorem g_slL {lo : Nat} (h : EvG K te σ H (.d (.list ds))) (h1 : EvG K tl σ H (.d (.int lo))) : EvG K (tSl (rSlL K) te (tPart tl) tNoPart) σ H (.d (.list (ds.drop lo))) := fun H1 e Q q =>
  h H1 e _ fun w H2 e2 hw => h1 H2 (e.trans e2) _ fun z H3 e3 hz => by
    cases Dp.int_eq hz
    cases (Dp.mono hw e3) with
    | @lst p xs _ a b =>
      refine ⟨(lo : Int), rfl, p, xs, rfl, a, fun l hl => ?_⟩
      have ec : cutV xs (some (lo : Int)) none = xs.drop lo := by
        unfold cutV
        rw [HT.sIx_none, HT.sIx_nat, List.take_of_length_le (by rw [List.length_drop]; omega)]
        by_cases hlo : lo ≤ xs.length
        · rw [Nat.min_eq_left hlo]
        · rw [Nat.min_eq_right (by omega), List.drop_eq_nil_of_le (Nat.le_refl _), List.drop_eq_nil_of_le (by omega)]
      rw [ec]
      exact q _ _ ((e2.trans e3).trans (Ex.new hl)) (.lst (sq_of upd_same) ((b.drop lo).mono (Ex.new hl)))
/-- (x, y) taken apart -/
theorem pair_target {i j : Nat} {x : V} {d1 d2 : PyData} {R : L2.St → Hp → Prop} (h : Dp K H x (.tuple [d1, d2])) (k : ∀ z1 z2, Dp K H z1 d1 → Dp K H z2 d2 → R ((σ.set i (some z1)).set j (some z2)) H) : gTup K 2 (gCons (gName i) (gCons (gName j) gNil)) x σ H R := by
  cases h with
  | @tup p xs _ a b =>
    cases b with
    | cons b1 b2 =>
      cases b2 with
      | cons b2 b3 =>
        cases b3
        exact ⟨p, _, rfl, a, rfl, _, _, rfl, _, _, rfl, rfl, k _ _ b1 b2⟩
/-- a loop over a list made on the spot, any target -/
theorem q_forGg (h : EvG K tl σ H (.d (.list ds))) (Pv : Hp → Nat → L2.St → Hp → Prop) (h0 : ∀ H1, Ex H H1 → Pv H1 0 σ H1) (hl : ∀ H1 i σ' H', Pv H1 i σ' H' → Ex H1 H')
    (hs : ∀ H1 i x d σ' H', Ex H H1 → ds[i]? = some d → Dp K H' x d → Pv H1 i σ' H' → g x σ' H' fun σ2 H2 => tu { D with nx := Pv H1 (i + 1), ct := Pv H1 (i + 1), bk := tz D } σ2 H2) (hd : ∀ H1 σ' H', Ex H H1 → Pv H1 ds.length σ' H' → tz D σ' H') : tSeq (tFor (iList K tl) g tu) tz D σ H := by
  unfold tSeq tFor iList
  refine h H (Ex.refl H) _ fun w H1 e1 hw => ?_
  cases hw with
  | @lst p xs _ h1 h2 =>
    refine ⟨p, rfl, ⟨xs, h1⟩, ?_⟩
    refine for_list (D := { D with nx := tz D }) (Pv H1) (h0 H1 e1) (fun i σ' H' _ p => ex_l (hl H1 i σ' H' p) h1) (fun i x σ' H' hi p => ?_) (fun σ' H' p => hd H1 σ' H' e1 (by rw [← h2.length]; exact p))
    obtain ⟨d, hdd, hp⟩ := h2.getv hi
    exact hs H1 i x d σ' H' e1 hdd (hp.mono (hl H1 i σ' H' p)) p
theorem spg_num {n : Nat} {s : Net} {row : List Nat} (F : Form n s) (hn : n ≤ 1000) (nd : row.Nodup) (lt : ∀ z ∈ row, z < n) (cl : ∀ z ∈ row, ∀ ch ∈ s, ch.getD z 0 ∈ row) : SpG K (spNum K) H [.d (encNet s), .d (encL row)] (.d (encNet (renum s row))) := fun vs H1 e hv Q E q => by
  match vs, hv with
  | [a, b], hv => exact ⟨a, b, n, s, row, rfl, hv.1, hv.2.1, F, hn, nd, lt, cl, q⟩
/-- numbered(net, met_from(net, flag)) -/
theorem g_rdg {n x : Nat} {s : Net} {te' : TE} {E E' : XK} (h : EvG K te σ H (.d (encNet s))) (h' : EvG K te' σ H (.d (encNet s))) (hf : EvG K tf σ H (.d (encN x))) (F : Form n s) (hx : x < n) (hn : n ≤ 1000) :
    EvG K (tCall (spNum K) [] E (tCons te (tCons (tCall (spBfs K) [] E' (tCons te' (tCons tf tNil))) tNil))) σ H (.d (encNet (rdg s n x))) :=
  g_call (gs_cons h (gs_cons (g_bfs h' hf F hx hn) gs_nil)) (spg_num F hn (bfs_nodup F hx) (bfs_lt F hx) (bfs_closed F hx))
theorem rg_ltNet {s t : Net} : RG K (rLtD K) H (.d (encNet s)) (.d (encNet t)) (.d (.bool (PySem.W.dataLt (encNet s) (encNet t)))) := fun x y H1 e hx hy Q q =>
  ⟨_, _, hx, hy, alike_Net s t, (fun z => by cases z), Nat.le_trans (depth_Net s) (by decide), q _ H1 (Ex.refl H1) (.bl _)⟩
theorem rcs_sortedD (hal : PySem.W.AllAlike ds) (hso : PySem.W.Sortable ds) (hd : ∀ d ∈ ds, d.depth ≤ 40) : RCs K (rSortedD K) H [.d (.list ds)] (.d (.list (ds.mergeSort (PySem.W.dataLe false id)))) := fun vs H1 e hv Q q => by
  match vs, hv with
  | [a], hv => exact ⟨a, ds, rfl, hv.1, hal, hso, hd, fun ys p hys hp => q _ _ (Ex.new hp) (.lst (sq_of upd_same) (hys.mono (Ex.new hp)))⟩
theorem rcs_minD {a : Net} {l : List Net} : RCs K (rMinD K) H [.d (.list (encNet a :: l.map encNet))] (.d (encNet (leastOf a l))) := fun vs H1 e hv Q q => by
  match vs, hv with
  | [z], hv =>
    have hmem : ∀ d ∈ encNet a :: l.map encNet, ∃ t, d = encNet t := fun d hd => by
      rcases List.mem_cons.mp hd with rfl | hd
      · exact ⟨a, rfl⟩
      · obtain ⟨t, _, rfl⟩ := List.mem_map.mp hd
        exact ⟨t, rfl⟩
    refine ⟨z, encNet a, l.map encNet, rfl, hv.1, ⟨fun x hx y hy => ?_, fun x hx => ?_⟩, depthAll_le fun x hx => ?_, fun w hw => q w H1 (Ex.refl H1) ?_⟩
    · obtain ⟨t, rfl⟩ := hmem x hx
      obtain ⟨t', rfl⟩ := hmem y hy
      exact alike_Net _ _
    · obtain ⟨t, rfl⟩ := hmem x hx
      exact fun z => by cases z
    · obtain ⟨t, rfl⟩ := hmem x hx
      exact Nat.le_trans (depth_Net _) (by decide)
    · rw [minD_nets] at hw
      exact hw
end
def spLeast (K : PySem.W.Frag) : Sp := fun vs H Q _ => ∃ (v u : V) (n : Nat) (s : Net) (P : List Nat), vs = [v, u] ∧ Dp K H v (encNet s) ∧ Dp K H u (encR P) ∧ Form n s ∧ n ≤ 1000 ∧ P ≠ [] ∧ P.length ≤ 1000 ∧ (∀ x ∈ P, x < n) ∧ RetA K (.d (encNet (leastRd s n P))) H Q
def spLLeast (K : PySem.W.Frag) : Sp := fun vs H Q _ => ∃ (v u : V) (n : Nat) (s : Net) (P : List Nat), vs = [v, u] ∧ Dp K H v (encNet s) ∧ Dp K H u (encL P) ∧ Form n s ∧ n ≤ 1000 ∧ P ≠ [] ∧ P.length ≤ 1000 ∧ (∀ x ∈ P, x < n) ∧ RetA K (.d (encNet (leastRd s n P))) H Q
def spLeastParts (K : PySem.W.Frag) : Sp := fun vs H Q _ => ∃ (v : V) (n : Nat) (s : Net), vs = [v] ∧ Dp K H v (encNet s) ∧ Back n s ∧ n ≤ 1000 ∧ RetA K (.d (.list ((sprs s n).map fun p => encNet p.2))) H Q
def spLLeastNet (K : PySem.W.Frag) : Sp := fun vs H Q _ => ∃ (v : V) (n : Nat) (s : Net), vs = [v] ∧ Dp K H v (encNet s) ∧ Back n s ∧ 0 < n ∧ n ≤ 1000 ∧ RetA K (.d (encNet (leastNet s n))) H Q
theorem lessOf_self (a : Net) : lessOf a a = a := by unfold lessOf; split <;> rfl
section
variable {P : Program} {w : World} {K : PySem.W.Frag} {mg : Str → Option Value} {base : Heap}
theorem sc_least_reading : FnScope ["net", "flags", "least", "flag", "found"] ["net", "flags"] (defScope (top 25)) := ⟨rfl, rfl, rfl, by decide +kernel, rfl, by decide +kernel, by decide +kernel⟩
theorem kn_least_reading (T : Txt K mg) (G_met_from : Kn P w K mg base CX0 1 "met_from" ["net", "flag"] (spBfs K)) (G_numbered : Kn P w K mg base CX0 1 "numbered" ["net", "row"] (spNum K)) : Kn P w K mg base CX0 2 "least_reading" ["net", "flags"] (spLeast K) := by
  obtain ⟨f, fd, F, hm⟩ := (T.df 15 (p := (25, "least_reading")) rfl)
  refine kn_ok F hm sc_least_reading (fun _ _ _ _ _ _ us hl => match us, hl with | [_, _], _ => rfl) (fun vs H Q E h => ?_) (fun cdv A outer s H vs Q E hr h => ?_)
  · obtain ⟨v, u, n, s, L, rfl, _⟩ := h
    rfl
  · obtain ⟨v, u, n, s, L, rfl, hN, hL, F, hn, hne, hll, hlt, q⟩ := h
    refine ⟨_, (pss_cons (ps_set (i := 2) sc_least_reading.nd rfl (Or.inl rfl) (pe_kn G_numbered (hr.mono (by decide)) (by rfl) pass0 (pa_cons (pv 0) (pa_cons (pe_kn G_met_from (hr.mono (by decide)) (by rfl) pass0 (pa_cons (pv 0) (pa_cons (pe_ix (ixK_tup (K := K) (by rfl)) (pv 1) pe_int (fun _ _ => rfl)) pa_nil))) pa_nil))))
  (pss_cons (ps_for PassesOwn.never rfl (piK_tup (K := K) (by rfl) (pv 1)) (pg_name (i := 3) sc_least_reading.nd rfl (by first | exact Or.inl rfl | exact Or.inr rfl))
  (pss_cons (ps_set (i := 4) sc_least_reading.nd rfl (Or.inl rfl) (pe_kn G_numbered (hr.mono (by decide)) (by rfl) pass0 (pa_cons (pv 0) (pa_cons (pe_kn G_met_from (hr.mono (by decide)) (by rfl) pass0 (pa_cons (pv 0) (pa_cons (pv 3) pa_nil))) pa_nil))))
  (pss_one (ps_if (pt_cmpR (opK_ltD (K := K) (by rfl) hr.units) (pv 4) (pv 2) (nomark _))
  (pss_one (ps_set (i := 2) sc_least_reading.nd rfl (Or.inl rfl) (pv 4)))
  pss_nil))))
  (pss_one (ps_ret (pv 2))))), ?_⟩
    cases L with
    | nil => exact absurd rfl hne
    | cons x0 L =>
      refine asg (g_rdg (K := K) (x := x0) (g_var rfl hN) (g_var rfl hN) (g_ixT (i := 0) (g_var rfl hL) g_int rfl) F (hlt x0 List.mem_cons_self) hn) fun l0 H1 e1 hl0 => ?_
      refine q_forTd (H0 := H) (v := u) (ev_var rfl) e1 hL (fun i σ H' => ∃ (l : V) (y3 y4 : Option V), σ = [some v, some u, some l, y3, y4] ∧ Ex H H' ∧ Dp K H' l (encNet (leastOf (rdg s n x0) (((x0 :: L).take i).map (rdg s n)))))
        (fun H2 e2 => ⟨l0, none, none, rfl, e1.trans e2, Dp.mono hl0 e2⟩) (fun i σ H' hP => let ⟨_, _, _, _, e, _⟩ := hP; e) (fun i x d σ H' hd hxd hP => ?_) (fun σ H' hP => ?_)
      · obtain ⟨l, y3, y4, rfl, e, hl⟩ := hP
        obtain ⟨z, hz, rfl⟩ := encR_of hd
        cases Dp.int_eq hxd
        have hzn := hlt z (List.mem_of_getElem? hz)
        have hst : leastOf (rdg s n x0) (((x0 :: L).take (i + 1)).map (rdg s n)) = lessOf (leastOf (rdg s n x0) (((x0 :: L).take i).map (rdg s n))) (rdg s n z) := by
          rw [List.take_add_one, hz, List.map_append]
          unfold leastOf
          rw [List.foldl_append]
          rfl
        refine asg (g_rdg (K := K) (x := z) (g_var rfl (hN.mono e)) (g_var rfl (hN.mono e)) (g_vn rfl) F hzn hn) fun r H3 e3 hr3 => ?_
        refine s_when (et_of (K := K) (g_op (g_var rfl (show Is K H3 r (.d (encNet (rdg s n z))) from hr3)) (g_var rfl (show Is K H3 l (.d _) from hl.mono e3)) rg_ltNet)) (fun hb H4 e4 => ?_) (fun hb H4 e4 => ?_)
        · refine s_asgG (K := K) (a := .d (encNet (rdg s n z))) (g_var rfl (Dp.mono hr3 e4)) fun l2 H5 e5 hl2 => ?_
          refine ⟨l2, _, _, rfl, ((e.trans e3).trans e4).trans e5, ?_⟩
          rw [hst]
          unfold lessOf
          rw [if_pos hb]
          exact hl2
        · refine ⟨l, _, _, rfl, (e.trans e3).trans e4, ?_⟩
          rw [hst]
          unfold lessOf
          rw [if_neg (by rw [hb]; decide)]
          exact hl.mono (e3.trans e4)
      · obtain ⟨l, y3, y4, rfl, e, hl⟩ := hP
        rw [List.length_map, List.take_length] at hl
        have hfin : leastOf (rdg s n x0) ((x0 :: L).map (rdg s n)) = leastRd s n (x0 :: L) := by
          show leastOf (lessOf (rdg s n x0) (rdg s n x0)) (L.map (rdg s n)) = leastOf (rdg s n x0) (L.map (rdg s n))
          rw [lessOf_self]
        rw [hfin] at hl
        exact retA (K := K) (a := .d (encNet (leastRd s n (x0 :: L)))) (g_var rfl hl) (fun v H5 e5 hv => q v H5 (e.trans e5) hv) rfl
theorem sc_law_least_reading : FnScope ["_law_net_here", "_law_part_here", "_law_flag"] ["_law_net_here", "_law_part_here"] (defScope (top 56)) := ⟨rfl, rfl, rfl, by decide +kernel, rfl, by decide +kernel, by decide +kernel⟩
theorem kn_law_least_reading (T : Txt K mg) (G_law_part : Kn P w K mg base CX0 1 "_law_part" ["_law_net_here", "_law_flag"] (spBfs K)) (G_law_numbered : Kn P w K mg base CX0 1 "_law_numbered" ["_law_net_here", "_law_order_here"] (spNum K)) : Kn P w K mg base CX0 2 "_law_least_reading" ["_law_net_here", "_law_part_here"] (spLLeast K) := by
  obtain ⟨f, fd, F, hm⟩ := (T.df 45 (p := (56, "_law_least_reading")) rfl)
  refine kn_ok F hm sc_law_least_reading (fun _ _ _ _ _ _ us hl => match us, hl with | [_, _], _ => rfl) (fun vs H Q E h => ?_) (fun cdv A outer s H vs Q E hr h => ?_)
  · obtain ⟨v, u, n, s, L, rfl, _⟩ := h
    rfl
  · obtain ⟨v, u, n, s, L, rfl, hN, hL, F, hn, hne, hll, hlt, q⟩ := h
    refine ⟨_, (pss_one (ps_ret (pe_callB (cK_minD (K := K) (by rfl) rfl hr.units) (by rfl) T.min bt_min (pa_cons (pe_lc (own := [("_law_flag", 2)]) (g := (gName 2)) (by rfl) sc_law_least_reading.nd (piK_list (K := K) (by rfl) (pv 1)) (blkOk_by (by kernel_rfl)) (fun _ _ _ _ _ => (pg_name (i := 2) sc_law_least_reading.nd rfl (by first | exact Or.inl rfl | exact Or.inr rfl))) (fun _ _ _ _ _ => pts_nil) (fun _ _ _ _ _ => (pe_kn G_law_numbered (hr.mono (by decide)) (by rfl) pass0 (pa_cons (pv 0) (pa_cons (pe_kn G_law_part (hr.mono (by decide)) (by rfl) pass0 (pa_cons (pv 0) (pa_cons (pv 2) pa_nil))) pa_nil))))) pa_nil)))), ?_⟩
    cases L with
    | nil => exact absurd rfl hne
    | cons x0 L =>
      have hlist : EvG K (tLc (iList K (tVar 1)) (gName 2) tYes (tCall (spNum K) [] E0 (tCons (tVar 0) (tCons (tCall (spBfs K) [] E0 (tCons (tVar 0) (tCons (tVar 2) tNil))) tNil))) [2]) [some v, some u, none] H (.d (.list (encNet (rdg s n x0) :: (L.map (rdg s n)).map encNet))) := by
        refine g_is (g_lcL (ds := (x0 :: L).map encN) (fun _ => true) (fun k => encNet (rdg s n ((x0 :: L).getD k 0))) (g_var rfl hL) (by rw [List.length_map]; omega) (fun _ => rfl) (fun _ => flat_Net _) (fun i x d H1 e1 hd hx => et_yes) (fun k y d H2 e2 hd hy _ => ?_)) ?_
        · obtain ⟨z, hz, rfl⟩ := encR_of hd
          cases Dp.int_eq hy
          rw [getD_of hz]
          exact g_rdg (K := K) (x := z) (g_var rfl (hN.mono e2)) (g_var rfl (hN.mono e2)) (g_vn rfl) F (hlt z (List.mem_of_getElem? hz)) hn
        · rw [List.length_map]
          refine congrArg (fun l => Nk.A.d (.list l)) ?_
          rw [show (encNet (rdg s n x0) :: (L.map (rdg s n)).map encNet) = (x0 :: L).map (fun x => encNet (rdg s n x)) by rw [List.map_cons, List.map_map]; rfl]
          exact givenD_all fun k z hz => by
            show encNet (rdg s n ((x0 :: L).getD k 0)) = _
            rw [getD_of hz]
      exact retA (K := K) (a := .d (encNet (leastRd s n (x0 :: L)))) (g_cb (gs_cons hlist gs_nil) rcs_minD) (fun v H5 e5 hv => q v H5 e5 hv) rfl
def dPair (s : Net) (n : Nat) (r : List Nat) : PyData := encP (r.length, leastRd s n r)
theorem prs_enc (s : Net) (n : Nat) : (prsOf s n).map encP = (partsOf s n).map (dPair s n) := by
  unfold prsOf
  rw [List.map_map]
  rfl
theorem g_sortedP {σ : L2.St} {H : Hp} {te : TE} {s : Net} {n : Nat} (h : EvG K te σ H (.d (.list ((partsOf s n).map (dPair s n))))) : EvG K (tCB (rSortedD K) (tCons te tNil)) σ H (.d (.list ((sprs s n).map encP))) := by
  rw [← prs_enc] at h
  rw [← sprs_enc]
  have mem : ∀ d ∈ (prsOf s n).map encP, ∃ p, d = encP p := fun d hd => let ⟨p, _, e⟩ := List.mem_map.mp hd; ⟨p, e.symm⟩
  refine g_cb (gs_cons h gs_nil) (rcs_sortedD (fun d hd d' hd' => ?_) (.inl fun d hd => ?_) (fun d hd => ?_))
  · obtain ⟨p, rfl⟩ := mem d hd
    obtain ⟨p', rfl⟩ := mem d' hd'
    exact alike_P p p'
  · obtain ⟨p, rfl⟩ := mem d hd
    exact ⟨_, _, rfl⟩
  · obtain ⟨p, rfl⟩ := mem d hd
    exact Nat.le_trans (depth_P p) (by decide)
theorem sc_least_parts : FnScope ["net", "found", "many", "least", "flags"] ["net"] (defScope (top 26)) := ⟨rfl, rfl, rfl, by decide +kernel, rfl, by decide +kernel, by decide +kernel⟩
theorem kn_least_parts (T : Txt K mg) (G_all_parts : Kn P w K mg base CX0 2 "all_parts" ["net"] (spParts K)) (G_least_reading : Kn P w K mg base CX0 2 "least_reading" ["net", "flags"] (spLeast K)) : Kn P w K mg base CX0 3 "least_parts" ["net"] (spLeastParts K) := by
  obtain ⟨f, fd, F, hm⟩ := (T.df 16 (p := (26, "least_parts")) rfl)
  refine kn_ok F hm sc_least_parts (fun _ _ _ _ _ _ us hl => match us, hl with | [_], _ => rfl) (fun vs H Q E h => ?_) (fun cdv A outer s H vs Q E hr h => ?_)
  · obtain ⟨v, n, s, rfl, _⟩ := h
    rfl
  · obtain ⟨v, n, s, rfl, hN, B, hn, q⟩ := h
    have F := B.toForm
    have hpl : (partsOf s n).length ≤ n := (partsOf_inv B).len
    refine ⟨_, (pss_cons (ps_set (i := 1) sc_least_parts.nd rfl (Or.inl rfl) (pe_callB (cK_sortedD (K := K) (by rfl) hr.units) (by rfl) T.sorted bt_sorted (pa_cons (pe_lc (own := [("flags", 4)]) (g := (gName 4)) (by rfl) sc_least_parts.nd (piK_tup (K := K) (by rfl) (pe_kn G_all_parts (hr.mono (by decide)) (by rfl) pass0 (pa_cons (pv 0) pa_nil))) (blkOk_by (by kernel_rfl)) (fun _ _ _ _ _ => (pg_name (i := 4) sc_least_parts.nd rfl (by first | exact Or.inl rfl | exact Or.inr rfl))) (fun _ _ _ _ _ => pts_nil) (fun _ _ _ _ _ => (pe_tup (pa_cons (pe_callB (cK_len (K := K) (by rfl)) (by rfl) T.len bt_len (pa_cons (pv 4) pa_nil)) (pa_cons (pe_kn G_least_reading (hr.mono (by decide)) (by rfl) pass0 (pa_cons (pv 0) (pa_cons (pv 4) pa_nil))) pa_nil))))) pa_nil)))
  (pss_one (ps_ret (pe_lc (own := [("many", 2), ("least", 3)]) (g := (gTup K 2 (gCons (gName 2) (gCons (gName 3) gNil)))) (by rfl) sc_least_parts.nd (piK_list (K := K) (by rfl) (pv 1)) (blkOk_by (by kernel_rfl)) (fun _ _ _ _ _ => (pg_tup rfl (pgs_cons (pg_name (i := 2) sc_least_parts.nd rfl (by first | exact Or.inl rfl | exact Or.inr rfl)) (pgs_cons (pg_name (i := 3) sc_least_parts.nd rfl (by first | exact Or.inl rfl | exact Or.inr rfl)) pgs_nil)))) (fun _ _ _ _ _ => pts_nil) (fun _ _ _ _ _ => (pv 3)))))), ?_⟩
    refine asg (g_sortedP (K := K) (s := s) (n := n) (g_is (g_lcT (ds := (partsOf s n).map encS) (fun _ => true) (fun k => dPair s n ((partsOf s n).getD k [])) (fun H1 e1 Q q => ⟨v, rfl, v, n, s, rfl, hN.mono e1, B, hn, q⟩) (by rw [List.length_map]; omega) (fun _ => rfl) (fun _ => flat_P _) (fun i x d H1 e1 hd hx => et_yes) (fun k y d H2 e2 hd hy _ => ?_)) ?_)) fun l H1 e1 hl => ?_
    · rw [List.getElem?_map] at hd
      obtain ⟨r, hr', rfl⟩ := Option.map_eq_some_iff.mp hd
      have hrm := List.mem_of_getElem? hr'
      have hg : (partsOf s n).getD k [] = r := by rw [List.getD_eq_getElem?_getD, hr']; rfl
      rw [hg]
      have hrn := part_ne B hrm
      have hrl : r.length ≤ n := by
        obtain ⟨f, hf, rfl, _⟩ := (partsOf_inv B).row r hrm
        exact bfs_len F hf
      have hvy : EvG K (tVar 4) [some v, none, none, none, some y] H2 (.d (encR (srt r))) := g_var rfl hy
      refine g_tup (ds := [encN r.length, encNet (leastRd s n r)]) (gs_cons (g_is (g_lenT (ds := (srt r).map encN) hvy) ?_) (gs_cons (fun H3 e3 Q q => ⟨v, rfl, ?_⟩) gs_nil)) (by show 2 ≤ 100000; omega)
      · rw [List.length_map, srt_len]
        rfl
      · refine ⟨y, rfl, v, y, n, s, srt r, rfl, hN.mono (e2.trans e3), Dp.mono hy e3, F, hn, ?_, ?_, ?_, ?_⟩
        · exact fun z => hrn (List.length_eq_zero_iff.mp (by rw [← srt_len, z]; rfl))
        · rw [srt_len]; omega
        · exact fun x hx => (partsOf_inv B).lt x (List.mem_flatten.mpr ⟨r, hrm, mem_srt.mp hx⟩)
        · rw [leastRd_srt hrn]
          exact q
    · rw [List.length_map]
      refine congrArg (fun l => Nk.A.d (.list l)) (givenD_all fun k r hr => ?_)
      show dPair s n ((partsOf s n).getD k []) = _
      rw [List.getD_eq_getElem?_getD, hr]
      rfl
    · have hsl : (sprs s n).length ≤ n := by rw [sprs_len]; exact hpl
      refine retA (K := K) (a := .d (.list ((sprs s n).map fun p => encNet p.2))) (g_is (g_lcLg (ds := (sprs s n).map encP) (fun _ => true) (fun k => encNet ((sprs s n).getD k (0, [])).2) (g_var rfl hl) (by rw [List.length_map]; omega) (fun _ => flat_Net _) (fun k x d H2 H3 e2 hd hx e3 R hR => ?_)) ?_) (fun v H5 e5 hv => q v H5 (e1.trans e5) hv) rfl
      · rw [List.getElem?_map] at hd
        obtain ⟨p, hp, rfl⟩ := Option.map_eq_some_iff.mp hd
        have hg : (sprs s n).getD k (0, []) = p := by rw [List.getD_eq_getElem?_getD, hp]; rfl
        rw [hg] at hR
        cases hx with
        | @tup pa xs _ a b =>
          cases b with
          | cons b1 b2 =>
            cases b2 with
            | cons b2 b3 =>
              cases b3
              refine ⟨pa, _, rfl, ex_t e3 a, rfl, _, _, rfl, _, _, rfl, rfl, hR _ rfl et_yes fun _ => ?_⟩
              exact g_var rfl b2
      · rw [List.length_map]
        refine congrArg (fun l => Nk.A.d (.list l)) (givenD_all fun k r hr => ?_)
        show encNet ((sprs s n).getD k (0, [])).2 = _
        rw [List.getD_eq_getElem?_getD, hr]
        rfl
theorem spg_laid {H : Hp} {n m : Nat} {s t : Net} (F : Form n s) (G : Form m t) (hn : n ≤ 1000) (hm : m ≤ 1000) (h0 : 0 < n) : SpG K (spLaid K) H [.d (encNet s), .d (encNet t)] (.d (encNet (laid n s t))) := fun vs H1 e hv Q E q => by
  match vs, hv with
  | [a, b], hv => exact ⟨a, b, n, m, s, t, rfl, hv.1, hv.2.1, F, G, hn, hm, h0, q⟩
/-- what a prefix of the sorted parts makes -/
theorem lay_pre {n : Nat} {s : Net} (B : Back n s) {p0 : Nat × Net} {L : List (Nat × Net)} (e : sprs s n = p0 :: L) (i : Nat) : Form ((L.take i).foldl layStep p0).1 ((L.take i).foldl layStep p0).2 ∧ ((L.take i).foldl layStep p0).1 ≤ n ∧ 0 < ((L.take i).foldl layStep p0).1 := by
  have hf := prs_form B
  rw [e] at hf
  have h0 := hf p0 List.mem_cons_self
  refine ⟨lay_form h0.1 fun p hp => (hf p (List.mem_cons_of_mem _ (List.mem_of_mem_take hp))).1, ?_, ?_⟩
  · rw [lay_len]
    have hs := prs_sum B
    rw [e, List.map_cons, List.sum_cons] at hs
    have : ((L.take i).map (·.1)).sum ≤ (L.map (·.1)).sum := by
      have e2 : (L.map (·.1)).sum = ((L.take i).map (·.1)).sum + ((L.drop i).map (·.1)).sum := by
        rw [← List.sum_append, ← List.map_append, List.take_append_drop]
      omega
    have e3 : p0.1 + ((L.take i).map (·.1)).sum ≤ n := by omega
    exact e3
  · rw [lay_len]
    omega
theorem lay_next {p0 p : Nat × Net} {L : List (Nat × Net)} {i : Nat} (h : L[i]? = some p) : (L.take (i + 1)).foldl layStep p0 = layStep ((L.take i).foldl layStep p0) p := by
  rw [List.take_add_one, h, List.foldl_append]
  rfl
theorem sc_law_least : FnScope ["_law_net_here", "_law_found", "_law_made", "_law_many", "_law_net_there", "_law_part_here"] ["_law_net_here"] (defScope (top 57)) := ⟨rfl, rfl, rfl, by decide +kernel, rfl, by decide +kernel, by decide +kernel⟩
theorem kn_law_least (T : Txt K mg) (G_law_laid : Kn P w K mg base CX0 1 "_law_laid" ["_law_net_here", "_law_other"] (spLaid K)) (G_law_parts : Kn P w K mg base CX0 2 "_law_parts" ["_law_net_here"] (spLParts K)) (G_law_least_reading : Kn P w K mg base CX0 2 "_law_least_reading" ["_law_net_here", "_law_part_here"] (spLLeast K)) :
    Kn P w K mg base CX0 3 "_law_least" ["_law_net_here"] (spLLeastNet K) := by
  obtain ⟨f, fd, F, hm⟩ := (T.df 46 (p := (57, "_law_least")) rfl)
  refine kn_ok F hm sc_law_least (fun _ _ _ _ _ _ us hl => match us, hl with | [_], _ => rfl) (fun vs H Q E h => ?_) (fun cdv A outer s H vs Q E hr h => ?_)
  · obtain ⟨v, n, s, rfl, _⟩ := h
    rfl
  · obtain ⟨v, n, s, rfl, hN, B, hn0, hn, q⟩ := h
    have F := B.toForm
    have hpl : (partsOf s n).length ≤ n := (partsOf_inv B).len
    refine ⟨_, (pss_cons (ps_set (i := 1) sc_law_least.nd rfl (Or.inl rfl) (pe_callB (cK_sortedD (K := K) (by rfl) hr.units) (by rfl) T.sorted bt_sorted (pa_cons (pe_lc (own := [("_law_part_here", 5)]) (g := (gName 5)) (by rfl) sc_law_least.nd (piK_list (K := K) (by rfl) (pe_kn G_law_parts (hr.mono (by decide)) (by rfl) pass0 (pa_cons (pv 0) pa_nil))) (blkOk_by (by kernel_rfl)) (fun _ _ _ _ _ => (pg_name (i := 5) sc_law_least.nd rfl (by first | exact Or.inl rfl | exact Or.inr rfl))) (fun _ _ _ _ _ => pts_nil) (fun _ _ _ _ _ => (pe_tup (pa_cons (pe_callB (cK_len (K := K) (by rfl)) (by rfl) T.len bt_len (pa_cons (pv 5) pa_nil)) (pa_cons (pe_kn G_law_least_reading (hr.mono (by decide)) (by rfl) pass0 (pa_cons (pv 0) (pa_cons (pv 5) pa_nil))) pa_nil))))) pa_nil)))
  (pss_cons (ps_set (i := 2) sc_law_least.nd rfl (Or.inl rfl) (pe_ix (ixK_tup (K := K) (by rfl)) (pe_ix (ixK_list (K := K) (by rfl)) (pv 1) pe_int (fun _ _ => rfl)) pe_int (fun _ _ => rfl)))
  (pss_cons (ps_for PassesOwn.never rfl (piK_list (K := K) (by rfl) (pe_slice (slK_list (K := K) (by rfl)) (pv 1) (po_some pe_int) po_none)) (pg_tup rfl (pgs_cons (pg_name (i := 3) sc_law_least.nd rfl (by first | exact Or.inl rfl | exact Or.inr rfl)) (pgs_cons (pg_name (i := 4) sc_law_least.nd rfl (by first | exact Or.inl rfl | exact Or.inr rfl)) pgs_nil)))
  (pss_one (ps_set (i := 2) sc_law_least.nd rfl (Or.inl rfl) (pe_kn G_law_laid (hr.mono (by decide)) (by rfl) pass0 (pa_cons (pv 2) (pa_cons (pv 4) pa_nil))))))
  (pss_one (ps_ret (pv 2)))))), ?_⟩
    refine asg (g_sortedP (K := K) (s := s) (n := n) (g_is (g_lcL (ds := (partsOf s n).map encL) (fun _ => true) (fun k => dPair s n ((partsOf s n).getD k [])) (fun H1 e1 Q q => ⟨v, rfl, v, n, s, rfl, hN.mono e1, B, hn, q⟩) (by rw [List.length_map]; omega) (fun _ => rfl) (fun _ => flat_P _) (fun i x d H1 e1 hd hx => et_yes) (fun k y d H2 e2 hd hy _ => ?_)) ?_)) fun l H1 e1 hl => ?_
    · rw [List.getElem?_map] at hd
      obtain ⟨r, hr', rfl⟩ := Option.map_eq_some_iff.mp hd
      have hrm := List.mem_of_getElem? hr'
      have hg : (partsOf s n).getD k [] = r := by rw [List.getD_eq_getElem?_getD, hr']; rfl
      rw [hg]
      have hrn := part_ne B hrm
      have hrl : r.length ≤ n := by
        obtain ⟨f, hf, rfl, _⟩ := (partsOf_inv B).row r hrm
        exact bfs_len F hf
      have hvy : EvG K (tVar 5) [some v, none, none, none, none, some y] H2 (.d (encL r)) := g_var rfl hy
      refine g_tup (ds := [encN r.length, encNet (leastRd s n r)]) (gs_cons (g_is (g_lenL (ds := r.map encN) hvy) ?_) (gs_cons (fun H3 e3 Q q => ⟨v, rfl, ?_⟩) gs_nil)) (by show 2 ≤ 100000; omega)
      · rw [List.length_map]
        rfl
      · refine ⟨y, rfl, v, y, n, s, r, rfl, hN.mono (e2.trans e3), Dp.mono hy e3, F, hn, hrn, by omega, ?_, q⟩
        exact fun x hx => (partsOf_inv B).lt x (List.mem_flatten.mpr ⟨r, hrm, hx⟩)
    · rw [List.length_map]
      refine congrArg (fun l => Nk.A.d (.list l)) (givenD_all fun k r hr => ?_)
      show dPair s n ((partsOf s n).getD k []) = _
      rw [List.getD_eq_getElem?_getD, hr]
      rfl
    · obtain ⟨p0, L, hpL⟩ : ∃ p0 L, sprs s n = p0 :: L := by
        cases hs : sprs s n with
        | nil =>
          have := sprs_len s n
          rw [hs] at this
          exact absurd (List.length_eq_zero_iff.mp this.symm) (parts_ne B hn0)
        | cons p L => exact ⟨p, L, rfl⟩
      rw [hpL] at hl
      have hlL : L.length ≤ n := by
        have := sprs_len s n
        rw [hpL, List.length_cons] at this
        omega
      refine asg (g_ixT (K := K) (i := 1) (g_ixL (i := 0) (ds := (p0 :: L).map encP) (d := encP p0) (g_var rfl hl) g_int rfl) g_int (d := encNet p0.2) rfl) fun a H2 e2 ha => ?_
      refine q_forGg (K := K) (ds := L.map encP) (g_is (g_slL (lo := 1) (g_var rfl (hl.mono e2)) g_int) rfl) (fun H3 i σ H' => ∃ (a y3 y4 : Option V) (b : V), a = some b ∧ σ = [some v, some l, a, y3, y4, none] ∧ Ex H3 H' ∧ Dp K H' b (encNet ((L.take i).foldl layStep p0).2))
        (fun H3 e3 => ⟨some a, none, none, a, rfl, rfl, Ex.refl H3, Dp.mono ha e3⟩) (fun H3 i σ H' hP => let ⟨_, _, _, _, _, _, e, _⟩ := hP; e) (fun H3 i x d σ H' e3 hd hx hP => ?_) (fun H3 σ H' e3 hP => ?_)
      · obtain ⟨_, y3, y4, b, rfl, rfl, e, hb⟩ := hP
        rw [List.getElem?_map] at hd
        obtain ⟨p, hp, rfl⟩ := Option.map_eq_some_iff.mp hd
        have hpf := prs_form B p (by rw [hpL]; exact List.mem_cons_of_mem _ (List.mem_of_getElem? hp))
        obtain ⟨f1, f2, f3⟩ := lay_pre B hpL i
        refine pair_target hx fun z1 z2 h1 h2 => ?_
        refine s_asgG (K := K) (a := .d (encNet (laid ((L.take i).foldl layStep p0).1 ((L.take i).foldl layStep p0).2 p.2))) (g_call (gs_cons (g_dv rfl hb) (gs_cons (g_dv rfl h2) gs_nil)) (spg_laid f1 hpf.1 (by omega) (by omega) f3)) fun c H5 e5 hc => ?_
        refine ⟨_, _, _, c, rfl, rfl, e.trans e5, ?_⟩
        rw [lay_next hp]
        exact hc
      · obtain ⟨_, y3, y4, b, rfl, rfl, e, hb⟩ := hP
        rw [List.length_map, List.take_length] at hb
        have hfin : (L.foldl layStep p0).2 = leastNet s n := by
          unfold leastNet
          rw [hpL]
          rfl
        rw [hfin] at hb
        exact retA (K := K) (a := .d (encNet (leastNet s n))) (g_var rfl hb) (fun v H5 e5 hv => q v H5 ((((e1.trans e2).trans e3).trans e).trans e5) hv) rfl
end
end Nk
/-! ## X1: an own exception over ValueError whose __init__ says super().__init__(text) -/
namespace Nk
open PySem PySem.Spec PyProof.Rows L2 Evl

/-- what the written part tells of the class C, its __init__ at f with the cell cc -/
structure IniF (P : Program) (K : PySem.W.Frag) (C f cc cda : Addr) (q : Str) (pa : Arguments) (body : List Stmt) (sc : Scope) : Prop where
  fn : ∃ oc od kV doc pm an ct osl, K.lookup f = some ⟨oc, od, .func (PySem.W.ksFn "__init__" q pa body sc .none kV doc pm an (.ref cda) ct cc), osl⟩
  cd : PySem.W.codeIn K (.ref cda) q = true
  file : ∃ ccl cdd vs ccs file tf, K.lookup cda = some ⟨ccl, cdd, .fields vs, ccs⟩ ∧ vs[2]? = some (.str file tf) ∧ ((P.main.file : Str) == file) = true
  cell : ∃ cl cld csl, K.lookup cc = some ⟨cl, cld, .cell (some (.ref C)), csl⟩
  cls : ∃ cdD, PySem.W.clsIn K C = some cdD
  sub : PySem.W.mroIn K C (.ref C) = some true
  opq : PySem.W.nsIn K cStatics "thirdparty.any" = some none
  hm : PySem.W.ks_superIn K C C "__init__" = some (some (.builtin "ValueError.__init__"))
  hB : PySem.W.subIn K (.ref C) (.type "ValueError") = some true
  ox : OexC K C
  nof : ∀ x ∈ ([("word" : Str), ("flag" : Str), ("place" : Str)] : List Str), PySem.W.findIn K (.ref C) x = some none
  ini : PySem.W.findIn K (.ref C) "__init__" = some (some (.ref f))
  tyf : PySem.W.typeIn K (.ref f) = some (.type "function")
  kpf : PySem.W.keepIn K (.ref f) = true

section
variable {prog : Program} {w : World} {M : Model} {A : Around} {E : Value → Shared → Prop} {h : Heap} {g : Array GenState} {d : Drawn} {t : Nat} {os : OsState}
/-- ValueError.__init__ bound to e, called: the args are laid anew -/
theorem call_mw {K : PySem.W.Frag} {C e u t0 : Addr} {rest : List Value} {Q : Value → Shared → Prop} (X : K.In h) (T : OexC K C) (he : h.get? e = some ({ cls := .ref C, dict := none, data := .fields #[.ref t0, .none, .none, .none, .bool false, .none] } : Obj))
    (hu : h.get? u = some (PySem.W.kxs_mw "ValueError.__init__" e)) (hz : rest.length ≤ sizeLine)
    (hq : ∀ h' t1, (∀ b o, b ≠ e → h.get? b = some o → h'.get? b = some o) → h'.get? e = some ({ cls := .ref C, dict := none, data := .fields #[.ref t1, .none, .none, .none, .bool false, .none] } : Obj) → Q .none ⟨h', g, d, t, os⟩) :
    wpAny (model prog w) A (call (.ref u) rest) Q E ⟨h, g, d, t, os⟩ := by
  obtain ⟨nm, q, N, bs, bm, sn, sub, ab, col, dd, k0, k1, k2, k3, k5, hC, hbm⟩ := T.cls
  refine wpAny_call (codeAny_of_tree ?_)
  show wpAny _ A.in1 (callAny (.ref u) ⟨rest, []⟩) _ _ _
  simp only [callAny]
  refine wpAny_bind (wpAny_load hu ?_)
  simp only [PySem.W.kxs_mw, show (Value.type "method-wrapper" == Value.type "method" || Value.type "method-wrapper" == Value.type "builtin_function_or_method" || Value.type "method-wrapper" == Value.type "method-wrapper") = true by decide, if_true]
  refine PySem.W.KFB.if_so (by decide) ?_
  refine wpAny_bind (PySem.W.check_bound_init F.excBase_ValueError.toExcCallFacts (X _ _ hC) he rfl ?_)
  refine wpAny_bind (wpAny_pure (wpAny_pure ?_))
  refine ⟨plainId_quiet F.excBase_ValueError.init.plain _, codeAny_builtin F.excBase_ValueError.initEntry ?_⟩
  exact PySem.W.exc_init_tree (cls := .ref C) (t0 := t0) (dv := none) (c2 := .none) (c3 := .none) (b4 := .bool false) he hz fun h' k e1 _ => hq h' _ k e1
end
/-- its promise: the fields stand in the exception's dict -/
def spIni (C : Addr) (fs : List Str) : Sp := fun vs H Q _ => ∃ (a : Addr) (ws : List V), vs = .ref a :: ws ∧ ws.length = fs.length ∧ H a = some (exo a C none) ∧
  ∀ dx H2, H dx = none → dx ≠ a → H2 a = some (exo a C (some dx)) → H2 dx = some (exd dx (fs.zip ws).reverse) → (∀ b, b ≠ a → b ≠ dx → H2 b = H b) → Q .non H2
section
variable {P : Program} {w : World} {K : PySem.W.Frag} {mg : Str → Option Value} {base : Heap}
abbrev nfI (q : Str) (pa : Arguments) (body : List Stmt) (sc : Scope) (cc cda : Addr) : NdefX.NF := ⟨"__init__", q, pa, body, sc, [("__class__", cc)], cda⟩
abbrev supSt (p0 p1 apos mpos cpos spos : Pos) (mk : Nat) (m : Str) : Stmt := .Expr (.Call (.Attribute (.Call (.Name "super" p0) [] [] p1) "__init__" apos) [.Constant (.str m) mk mpos] [] cpos) spos
theorem fnI_ok {C f cc cda : Addr} {q m : Str} {pa : Arguments} {rest : List Stmt} {sc : Scope} {p0 p1 apos mpos cpos spos : Pos} {mk : Nat} {ps fs : List Str} {N : List Str} {k : Nat} {ar : Arg} (hsup : mg "super" = none)
    (I : IniF P K C f cc cda q pa (supSt p0 p1 apos mpos cpos spos mk m :: rest) sc)
    (S : NdefX.NScope N ps ["__class__"] sc) (hps : ps = ("self" : Str) :: fs) (har : (pa.posonlyargs ++ pa.args).head? = some ar) (har2 : ar.arg = ("self" : Str)) (hks : sc.names.lookup ("super" : Str) = some .globalImplicit)
    (htop : (P.main.scope.names.lookup ("super" : Str)).isSome = false)
    (hev : ∀ L, ∃ pl : Sem Bool, eval (.Call (.Attribute (.Call (.Name "super" p0) [] [] p1) "__init__" apos) [.Constant (.str m) mk mpos] [] cpos) (NdefX.envF (nfI q pa (supSt p0 p1 apos mpos cpos spos mk m :: rest) sc cc cda) f L) = (do
      let ov ← attributeBase (.Call (.Name "super" p0) [] [] p1) "__init__" (NdefX.envF (nfI q pa (supSt p0 p1 apos mpos cpos spos mk m :: rest) sc cc cda) f L) (eval (.Call (.Name "super" p0) [] [] p1) (NdefX.envF (nfI q pa (supSt p0 p1 apos mpos cpos spos mk m :: rest) sc cc cda) f L))
      standAt apos.atName
      let (g, first) ← holding [ov] (getMethod ov "__init__" pl)
      callWith cpos g first (backTo cpos (starEach [.Constant (.str m) mk mpos] (NdefX.envF (nfI q pa (supSt p0 p1 apos mpos cpos spos mk m :: rest) sc cc cda) f L))) []))
    (hsw : ∀ L, swapsWith (.Call (.Attribute (.Call (.Name "super" p0) [] [] p1) "__init__" apos) [.Constant (.str m) mk mpos] [] cpos) none spos.line (NdefX.envF (nfI q pa (supSt p0 p1 apos mpos cpos spos mk m :: rest) sc cc cda) f L) = pure false)
    (hin : ∀ L, interactive (NdefX.envF (nfI q pa (supSt p0 p1 apos mpos cpos spos mk m :: rest) sc cc cda) f L) = false)
    (hbody : ∀ (A : Around) (outer : List Env) (s : Shared) (H : Hp) (a : Addr) (ws : List V) (Q : VK) (E : XK), Room k (A.deeper (NdefX.envF (nfI q pa (supSt p0 p1 apos mpos cpos spos mk m :: rest) sc cc cda) f s.heap.objs.size)) → ws.length = fs.length → H a = some (exo a C none) →
      (∀ dx H2, H dx = none → dx ≠ a → H2 a = some (exo a C (some dx)) → H2 dx = some (exd dx (fs.zip ws).reverse) → (∀ b, b ≠ a → b ≠ dx → H2 b = H b) → Q .non H2) →
      ∃ t, PSs (NdefX.ncx CX0 P w K mg base N (nfI q pa (supSt p0 p1 apos mpos cpos spos mk m :: rest) sc cc cda) f A outer s H E) rest t ∧ t { nx := fun _ H' => Q .non H', rt := Q } (NdefX.startF N (.ref a :: ws) [some (.ref C)]) H) :
    ∀ fd, (∃ oc od osl, K.lookup f = some ⟨oc, od, .func fd, osl⟩) → FnOk P w K mg base CX0 (k + 1) f fd ps (spIni C fs) := by
  intro fd hfd
  obtain ⟨oc, od, kV, doc, pm, an, ct, osl, lkf⟩ := I.fn
  obtain ⟨oc2, od2, osl2, lk2⟩ := hfd
  rw [lkf] at lk2
  cases lk2
  refine ⟨fun vs H Q E h => ?_, fun A outer s H args us vs Q E hr e0 bt r h => ?_⟩
  · obtain ⟨a, ws, rfl, hl, _⟩ := h
    rw [hps, List.length_cons, List.length_cons, hl]
  · obtain ⟨a, ws, rfl, hl, ha, qq⟩ := h
    obtain ⟨hp, g0, d0, t0, os0⟩ := s
    have inK : K.In hp := e0.mod.kin.keeps fun b o z => (e0.bs b o z).1
    have noLim : hp.NoLimit := e0.mod.nolimit.keeps fun b o z => (e0.bs b o z).1
    obtain ⟨ccl, cdd, vs2, ccs, file, tf, lkc, hvs2, hfile⟩ := I.file
    obtain ⟨cl, cld, csl, lkcell⟩ := I.cell
    obtain ⟨cdD, hcls⟩ := I.cls
    have hvl : (V.ref a :: ws).length = ps.length := by rw [hps, List.length_cons, List.length_cons, hl]
    obtain ⟨u0, us', hus, ru0⟩ : ∃ u0 us', us = u0 :: us' ∧ RelV (.ref a) u0 := by
      cases r with
      | cons r1 r2 => exact ⟨_, _, rfl, r1⟩
    subst hus
    cases ru0
    have CA : NdefX.CellsAt [(("__class__" : Str), cc)] ["__class__"] [some (.ref C)] hp H := by
      have hcc : hp.IsCell cc (some (.ref C)) := ⟨_, inK _ _ lkcell, rfl⟩
      have hn : H cc = none := by
        have hb : base.get? cc = some _ := e0.mod.kin _ _ lkcell
        exact (e0.bs _ _ hb).2
      have one : ∀ {y c}, List.lookup y [(("__class__" : Str), cc)] = some c → c = cc ∧ y = ("__class__" : Str) := fun {y c} e => by
        by_cases hy : y = ("__class__" : Str)
        · subst hy
          have e2 : some cc = some c := e
          exact ⟨(Option.some.inj e2).symm, rfl⟩
        · have : (y == ("__class__" : Str)) = false := by simpa using hy
          simp [List.lookup, this] at e
      refine ⟨rfl, fun y c e => ?_, fun x y c e1 e2 => ?_, fun i y e => ?_⟩
      · obtain ⟨rfl, _⟩ := one e
        exact ⟨hn, _, hcc⟩
      · rw [(one e1).2, (one e2).2]
      · cases i with
        | zero =>
          cases e
          refine ⟨cc, rfl, fun v hv => ?_⟩
          cases hv
          exact ⟨_, rfl, hcc⟩
        | succ i => cases e
    refine ks_codeAny_call_defAt hr.depth (inK _ _ lkf) rfl noLim (PySem.W.codeRec_of inK I.cd) rfl bt S.nocell (fun y hy => S.par _ (List.of_mem_zip (show (y.1, y.2) ∈ _ from hy)).1) (fun h₁ hns kp => ?_) S.co S.gen S.kind
    have J := NdefX.inv_startN (CX := CX0) (F := nfI q pa (supSt p0 p1 apos mpos cpos spos mk m :: rest) sc cc cda) (f := f) (E := E) (tk := t0 + (ps.zip (Value.ref a :: us')).length) S hr.hd e0 hvl r CA hns kp
    obtain ⟨t, ht, hq⟩ := hbody A outer _ H a ws Q E (hr.deeper _) hl ha qq
    have hself : (ps.zip (Value.ref a :: us')).reverse.lookup ("self" : Str) = some (.ref a) := by
      have ndP : ps.Nodup := by
        have z := S.nd.sublist (List.take_sublist (ps.length + 1) N)
        have zp : N.take (ps.length + 1) = ps ++ [("__class__" : Str)] := S.pre
        rw [zp] at z
        exact (List.nodup_append.mp z).1
      exact NdefX.zip_look (i := 0) ndP (by rw [hps]; rfl) rfl
    have hkc : sc.names.lookup ("__class__" : Str) = some .free := S.frk _ List.mem_cons_self
    have hkself : sc.names.lookup ("self" : Str) = some .local := S.par _ (by rw [hps]; exact List.mem_cons_self)
    have inK1 : K.In h₁ := inK.keeps kp
    obtain ⟨mb, hb1, hb2⟩ := e0.mod.blt
    obtain ⟨oD, hD1, hD2⟩ : ∃ oD, h₁.get? C = some oD ∧ oD.data = .cls cdD := by
      unfold PySem.W.clsIn at hcls
      split at hcls
      · rename_i c d cd' sl ho
        cases hcls
        exact ⟨_, inK1 _ _ ho, rfl⟩
      · cases hcls
    obtain ⟨t1, hoe⟩ := exo_at J.hok ha
    have hoe : h₁.get? a = some ({ cls := .ref C, dict := none, data := .fields #[.ref t1, .none, .none, .none, .bool false, .none] } : Obj) := hoe
    obtain ⟨pl, hpl⟩ := hev hp.objs.size
    refine ks_wpAt_execs_cons (ks_wpAt_Expr_any (hi := hin hp.objs.size) (hs := hsw hp.objs.size) (ks_wpAt_MethodCall (pl := pl) (he := hpl) (ks_wpAt_super_base hks hkc (by decide) rfl (kp _ _ (inK _ _ lkf)) rfl har rfl (kp _ _ (inK _ _ lkc)) rfl hvs2 hfile htop ?_)))
    refine PySem.W.ks_loadName_global S.kind hks (Calls.loadGlobal_builtin (mg := mg) (e0.mod.glob.keeps fun b o z => kp _ _ (e0.bs b o z).1) hsup (hb1.keeps fun b o z => kp _ _ (e0.bs b o z).1) ((hb2 _ (by decide)).trans (by decide +kernel)) ⟨rfl, ?_⟩)
    refine wpAny_loadName_free S.kind hkc rfl (⟨_, inK1 _ _ lkcell, rfl⟩ : Heap.IsCell h₁ cc (some (.ref C))) ?_
    rw [har2]
    refine wpAny_loadName_local S.kind hkself hns hself ?_
    refine PySem.ks_wpAny_isType_cls hD1 hD2 ⟨rfl, ?_⟩
    refine ks_wpAny_call_super hD1 hD2 hoe rfl (fun c => by intro z; cases z) (PySem.W.looks_mroIn inK1 I.sub) (fun h2 hso k2 => ?_)
    have inK2 : K.In h2 := inK1.keeps k2
    have hoe2 := k2 _ _ hoe
    have IA : PySem.W.InstAt h2 a ({ cls := .ref C, dict := none, data := .fields #[.ref t1, .none, .none, .none, .bool false, .none] } : Obj) C none := ⟨hoe2, rfl, rfl, trivial⟩
    have hm2 := I.hm
    unfold PySem.W.ks_superIn at hm2
    rw [hcls] at hm2
    refine PySem.W.kxs_getMethod PySem.W.kxs_ValueError hso (PySem.W.looks_opaque inK2 I.opq) (l₀ := cdD.mro) (fun A Q E s k q => wpAny_bind ((PySem.W.looks_clsIn inK2 hcls) A _ E s k (wpAny_pure q))) rfl inK2 hm2 (IA.type.andThen (PySem.W.looks_subIn inK2 I.hB)) (PySem.W.ks_ne inK2 IA hcls) (by decide) ?_
    have hmw : (h2.push (PySem.W.kxs_mw "ValueError.__init__" a)).get? h2.objs.size = some (PySem.W.kxs_mw "ValueError.__init__" a) := Heap.get?_push_size _ rfl
    have k3 : ∀ b o, h₁.get? b = some o → (h2.push (PySem.W.kxs_mw "ValueError.__init__" a)).get? b = some o := fun b o z => Heap.get?_push_of_some _ (k2 b o z)
    refine PySem.W.kxs_callWith1 (i := "ValueError.__init__") (x := a) (u := h2.objs.size) (h₀ := {}) (L := h2.objs.size + 1) (news := [(h2.objs.size, PySem.W.kxs_mw "ValueError.__init__" a)]) (fun p hp => ?_) List.mem_cons_self ?_
    · rw [List.mem_singleton.mp hp]
      exact ⟨hmw, Nat.ne_of_lt (Nat.lt_succ_self _), rfl⟩
    refine PyProof.Rows.args_cons (Calls.Constant_str (PyProof.Rows.args_nil ⟨hmw, ?_⟩))
    refine call_mw (K := K) (inK1.keeps k3) I.ox (k3 _ _ hoe) hmw (by show 1 ≤ sizeLine; decide) fun h4 t4 k4 he4 => ?_
    have J2 := J.kept (t' := 0) k3
    have J3 := J2.write (t' := 0) (x := a) (e := a) (o := exo a C none) (by rw [ha]; exact True.intro) (.inl rfl) k4 ⟨_, he4⟩ (exo_ok he4)
    have eu : upd H a (exo a C none) = H := by
      funext b
      by_cases hb : b = a
      · rw [hb, upd_same, ha]
      · rw [upd_ne hb]
    rw [eu] at J3
    refine PySem.wpAt_of_wpAny ?_
    refine wpAny_mono (ht.run [] _ (NdefX.startF N (.ref a :: ws) [some (.ref C)]) H _ (J3.tok _) hq) (fun fl s' hs => ?_) fun e s' hs => hs
    have fin : ∀ {σ' : L2.St} {H' : Hp} {v : V} {u : Value}, Inv (NdefX.ncx CX0 P w K mg base N (nfI q pa (supSt p0 p1 apos mpos cpos spos mk m :: rest) sc cc cda) f A outer ⟨hp, g0, d0, t0, os0⟩ H E) [] σ' H' s' → L2.RelV v u → Q v H' → CE outer P w H ⟨hp, g0, d0, t0, os0⟩ Q u s' :=
      fun {σ' H' v u} J rv q => ⟨v, H', J.os, J.bare, J.base, J.hok, rv, q⟩
    cases fl with
    | ret u =>
      obtain ⟨v, σ', H', J, rv, q⟩ := hs
      exact fin J rv q
    | next =>
      obtain ⟨σ', H', J, q⟩ := hs
      exact fin (v := V.non) (u := Value.none) J rfl q
    | brk =>
      obtain ⟨_, _, _, q⟩ := hs
      exact False.elim q
    | cont =>
      obtain ⟨_, _, _, q⟩ := hs
      exact False.elim q
end
end Nk
/-! ## X2: several clauses «except C as e», one of which takes whatever comes -/
namespace Nk
open PySem PySem.Spec PyProof.Rows L2 Evl

abbrev Cl := Value × Nat × (Addr → Value → Option Addr → TS)
/-- a suite's ends once its name is gone -/
def gone (D : Ends) (i : Nat) : Ends := ⟨fun τ G => D.nx (τ.set i none) G, D.rt, fun τ G => D.bk (τ.set i none) G, fun τ G => D.ct (τ.set i none) G⟩
def wAsN (K : PySem.W.Frag) (D : Ends) : List Cl → WX
  | [] => fun _ _ _ _ => False
  | q :: r => fun cls d τ G => ∃ b, PySem.W.exmOne K cls q.1 = some b ∧ (b = true → ∀ a, G a = none → q.2.2 a cls d (gone D q.2.1) (τ.set q.2.1 (some (.ref a))) G) ∧ (b = false → wAsN K D r cls d τ G)
inductive HAs (X : Cx) : List ExceptHandler → List Cl → Prop
  | nil : HAs X [] []
  | cons {x n : Str} {c : Value} {i : Nat} {ts : Addr → Value → Option Addr → TS} {b1 : Stmt} {su : List Stmt} {np hp : Pos} {hs : List ExceptHandler} {l : List Cl} (hc : Names X x c) (hi : X.N[i]? = some n) (hl : X.env.kindOf n = some .local)
      (hsu : ∀ (a : Addr) (oe : Obj) (cls : Value) (d : Option Addr) (pn : List (Addr × Obj)), Zc cls d oe → (∃ vs, oe.data = .fields vs) → PSs (X.suite a ((a, oe) :: pn)) (b1 :: su) (ts a cls d)) (r : HAs X hs l) :
      HAs X (.ExceptHandler (some (.Name x np)) (some n) (b1 :: su) hp :: hs) ((c, i, ts) :: l)
section
variable {X : Cx} {pins : List (Addr × Obj)} {τ : L2.St} {G : Hp} {D : Ends}
/-- one exception that has landed, and the clauses -/
theorem clauses_run {a : Addr} {B : Heap} {si sx : Shared} {cls : Value} {d : Option Addr} (hN : X.N.Nodup) (hs : X.stack = X.env :: X.outer) (hf : X.env.frame = some X.env.locals) (ok : X.Ok) (J : Inv X pins τ G si)
    (nb : ∀ b o, si.heap.get? b = some o → b ∉ frs X.stack → B.get? b = some o) (up : si.heap.UpToSlots sx.heap) (fl : HandSPX.FlyingZ B (X.env :: X.outer) a (Zc cls d) sx.heap) (na : G a = none) (os : sx.os = si.os) (ag : AllBare sx.gens) :
    ∀ {hds : List ExceptHandler} {l : List Cl}, HAs X hds l → wAsN X.K D l cls d τ G → wpAny (model X.prog X.w) X.A (handleBy (.ref a) X.env hds) (SP X pins D) X.xe sx := by
  have Jx : Inv X pins τ G sx := J.landed nb fl.1 up os ag
  obtain ⟨ob, fv, hob, hz, hfv⟩ := fl.there
  -- the exception is nobody's frame
  have out : a ∉ frs (X.env :: X.outer) := fun hm => by
    obtain ⟨_, o1, e1, nf⟩ := fl.2.2.1.mem hm
    rw [hob] at e1
    cases e1
    exact nf _ hfv
  have aL : a ≠ X.env.locals := fun z => out (List.mem_filterMap.mpr ⟨X.env, .head _, hf.trans (congrArg some z.symm)⟩)
  have aF : a ∉ X.fs := fun hm => by
    obtain ⟨e, he, q⟩ := List.mem_filterMap.mp hm
    exact out (List.mem_filterMap.mpr ⟨e, .tail _ he, q⟩)
  have Sx := Jx.suite hob hfv na aL aF
  have hty : PySem.W.Looks (model X.prog X.w) sx.heap (typeOf (.ref a)) cls := fun _ _ _ _ k z => wpAny_typeOf_ref (k _ _ hob) (by rw [hz.1]; exact z)
  intro hds l hk
  induction hk with
  | nil => exact fun z => z.elim
  | @cons x n c i ts b1 su np hp hs2 l2 hc hi hl hsu r ih =>
    rintro ⟨b, hb, yes, no⟩
    have inK : X.K.In sx.heap := Jx.kIn
    have LM := PySem.W.exm_one (M := model X.prog X.w) inK hty hb
    refine wpAny_handleBy_cons (codeAny_handlers_test ?_) (fun z => by cases z)
    have named : ∀ {R : Value → Shared → Prop} {F : Value → Shared → Prop}, R c sx → wpAny (model X.prog X.w) (X.A.mark (some (.ref a))) (eval (.Name x np) X.env) R F sx := fun {R F} z => by
      obtain ⟨g1, g2, g3⟩ := hc
      rcases g3 with g3 | ⟨g3, g4, g5⟩
      · exact ld_glob (X := X.suite a ((a, ob) :: (X.pn ++ pins))) Sx g1 g3 z g2
      · exact ld_blt (X := X.suite a ((a, ob) :: (X.pn ++ pins))) Sx g1 g3 g4 z g5 g2
    refine named (LM.here ?_)
    cases b with
    | false =>
      show wpAny _ X.A (handleBy (.ref a) X.env hs2) _ _ _
      exact ih (no rfl)
    | true =>
      refine codeAny_handlers_suite_as (HandSPX.lands_againZ fl fun hq flq upq => ?_)
      have Jq : Inv X pins τ G { sx with heap := hq } := J.landed nb flq.1 (up.trans upq) os ag
      obtain ⟨ob2, fv2, hob2, hz2, hfv2⟩ := flq.there
      have Sq := Jq.suite hob2 hfv2 na aL aF
      refine store_ok (X := X.suite a ((a, ob2) :: (X.pn ++ pins))) (v := .ref a) Sq hN hi (.inl hl) rfl (fun sy Sy => ?_) (.inr hl)
      have hrun := (hsu a ob2 cls d (X.pn ++ pins) hz2 ⟨_, hfv2⟩).run [] sy _ G _ Sy (yes rfl a na)
      refine wpAny_mono hrun (fun fl6 s6 got => ?_) fun _ _ z => z.elim
      have leave : ∀ {τ6 : L2.St} {G6 : Hp} {R : Shared → Prop}, Inv (X.suite a ((a, ob2) :: (X.pn ++ pins))) [] τ6 G6 s6 → (∀ s7, Inv X pins (τ6.set i none) G6 s7 → R s7) →
          wpAny (model X.prog X.w) X.A (do bindName X.env n .none; unbindBehindTheSuite X.env n hp) (fun _ s7 => R s7) X.xe s6 := fun {τ6 G6 R} S6 k => gone_ok (S6.unsuite ok) hN hi hl k
      cases fl6 with
      | ret u =>
        obtain ⟨v, τ6, G6, S6, rv, z⟩ := got
        exact leave S6 fun _ J7 => ⟨v, _, _, J7, rv, z⟩
      | next => exact let ⟨_, _, S6, z⟩ := got; leave S6 fun _ J7 => ⟨_, _, J7, z⟩
      | brk => exact let ⟨_, _, S6, z⟩ := got; leave S6 fun _ J7 => ⟨_, _, J7, z⟩
      | cont => exact let ⟨_, _, S6, z⟩ := got; leave S6 fun _ J7 => ⟨_, _, J7, z⟩
end
section
variable {X : Cx} {body : List Stmt} {h1 : ExceptHandler} {hds : List ExceptHandler} {l : List Cl} {pos : Pos} {tb : WX → TS}
/-- try: body / except A as e: .. / except B as e: .. -/
theorem ps_tryN (hN : X.N.Nodup) (hs : X.stack = X.env :: X.outer) (hf : X.env.frame = some X.env.locals)
    (hb : ∀ (W : WX) (pn : List (Addr × Obj)) (xe : Value → Shared → Prop), Takes (X.tr pn xe) W → PassesOwn (model X.prog X.w) X.A X.env xe → PSs (X.tr pn xe) body (tb W)) (hh : HAs X (h1 :: hds) l) :
    PS X (.Try body (h1 :: hds) [] [] pos) (fun D τ G => tb (wAsN X.K D l) D τ G) := by
  refine ⟨fun pins s τ G D I wish => ?_⟩
  have ok := I.ok
  have top : X.A.frames = some (X.env :: X.outer) := ok.frames.trans (congrArg some hs)
  let after : Value → Shared → Prop := fun e s1 => wpAny (model X.prog X.w) X.A (noteFrame e X.env) (fun _ s2 => wpAny (model X.prog X.w) X.A (setFlight e none)
    (fun _ s3 => wpAny (model X.prog X.w) X.A (handleBy e X.env (h1 :: hds)) (SP X pins D) X.xe s3) X.xe s2) X.xe s1
  have tk : Takes (X.tr (X.pn ++ pins) after) (wAsN X.K D l) := fun u sx air => by
    obtain ⟨a, B, si, pins', τ', G', cls, d, rfl, J', nb, up, sky, na, os, ag, wsh⟩ := air
    have sky2 : Sky B (X.env :: X.outer) a (Zc cls d) X.env.locals sx.heap := hs ▸ sky
    exact Sky.land Zc.steady top hf sky2 fun h3 fl3 up3 => clauses_run (sx := { sx with heap := h3 }) hN hs hf ok (J'.ofTry ok) nb (up.trans up3) fl3 na os ag hh wsh
  refine wpAny_Try_except (wpAny_mono ((hb _ _ _ tk PassesOwn.looking).run [] s τ G D (I.toTry _) wish) (fun f s1 got => ?_) fun _ _ z => z)
  cases f with
  | ret u => exact let ⟨v, _, _, J', r, q⟩ := got; ⟨v, _, _, J'.ofTry ok, r, q⟩
  | next => exact let ⟨_, _, J', q⟩ := got; wpAny_execs_nil ⟨_, _, J'.ofTry ok, q⟩
  | brk => exact let ⟨_, _, J', q⟩ := got; ⟨_, _, J'.ofTry ok, q⟩
  | cont => exact let ⟨_, _, J', q⟩ := got; ⟨_, _, J'.ofTry ok, q⟩
end
end Nk
/-! ## X3: the four exceptions, raised and caught -/
namespace Nk
open PySem PySem.Spec PyProof.Rows L2 Evl

def clB : Stmt → List Stmt
  | .ClassDef (body := b) .. => b
  | _ => []
def ini (i : Nat) : Stmt := (clB (top i)).getD 0 (.Pass ⟨0, 0, 0, 0⟩)
/-- a class known by its name: what its making promises -/
structure KnC (P : Program) (w : World) (K : PySem.W.Frag) (mg : Str → Option Value) (base : Heap) (k : Nat) (x : Str) (C : Addr) (ps fs : List Str) : Prop where
  ex : ∃ fI fd, FnOk P w K mg base CX0 k fI fd ps (spIni C fs) ∧ Binds K fd ps [] ∧ PySem.W.findIn K (.ref C) "__init__" = some (some (.ref fI)) ∧ PySem.W.typeIn K (.ref fI) = some (.type "function")
  ox : OexC K C
  gm : mg x = some (.ref C)
section
variable {X : Cx} {k : Nat} {C : Addr} {ps fs : List Str} {x : Str} {p pos : Pos} {e : Expr} {es : List Expr} {ta : TA} {E : XK}
theorem pmk_c (G : KnC X.prog X.w X.K X.mg X.base k x C ps fs) (hr : Room (k + 1) X.A) (hg : Gl X x) (ha : PA X (e :: es) ta)
    (hdb : (x == ("__debug__" : Str)) = false := by decide) (he : starEach (e :: es) X.env = (false, eval e X.env) :: starEach es X.env := by rfl) (hpl : (backTo pos (starEach es X.env)).any (·.1) = false := by rfl) :
    PMk X (.Call (.Name x p) (e :: es) [] pos) (tMkO C (spIni C fs) [] ta) := by
  obtain ⟨fI, fd, F, hb, iC, tI⟩ := G.ex
  exact pmk_oex G.ox iC tI F hr hb .nil pass0 hg G.gm ha hdb he hpl
theorem passX (hs : X.stack = X.env :: X.outer) (hf : X.env.frame = some X.env.locals) (hex : X.ex = []) {E₁ : Value → Shared → Prop}
    (hx : X.xe = fun e s' => wpAny (model X.prog X.w) X.A (leaving X.env e) (fun _ s'' => L2.CX X.prog X.w X.outer X.H_0 X.s_0 E e s'') E₁ s') : Passes (L2.CX X.prog X.w) X E :=
  fun _ _ _ _ e s' I c => takes_of hs hf hex hx e s' (XE.of_call I (fun _ _ _ h => h) c)
/-- a call in a try's body -/
theorem pe_knS {W : WX} {sp : Sp} (F : Kn X.prog X.w X.K X.mg X.base (L2.CX X.prog X.w) k x ps sp) (hr : Room k X.A) (hg : Gl X x) (tk : Takes X W) (ha : PA X (e :: es) ta)
    (hdb : (x == ("__debug__" : Str)) = false := by decide) (he : starEach (e :: es) X.env = (false, eval e X.env) :: starEach es X.env := by rfl) (hpl : (backTo pos (starEach es X.env)).any (·.1) = false := by rfl) :
    PE X (.Call (.Name x p) (e :: es) [] pos) (tCallS sp (WE W) ta) := by
  obtain ⟨f, fd, F, hm, hk, hb⟩ := F.ex
  exact pe_callS F hr hg hm hk hb (passAt tk) ha hdb he hpl
end
/-- the wish of an exception: its class, its fields -/
def Thr (C : Addr) (fs : List (Str × V)) (H : Hp) (E : XK) : Prop := ∀ d H2, Ex H H2 → H2 d = some (.xd fs) → E (.ref C) (some d) H2
section
variable {K : PySem.W.Frag} {σ : L2.St} {H : Hp} {ta : TA} {C : Addr} {fs : List Str} {E : XK}
/-- raise C(..) -/
theorem raise_c {as : List A} (ha : EvGs K ta σ H as) (hz : as.length ≤ 1000) (hl : as.length = fs.length) (h : ∀ ws H1, Ex H H1 → IsAll K H1 ws as → Thr C (fs.zip ws).reverse H1 E) : tMkO C (spIni C fs) [] ta σ H E := by
  refine ha H (Ex.refl H) _ fun ws H1 e1 hw => ?_
  have len : ∀ {vs : List V} {as : List A}, IsAll K H1 vs as → vs.length = as.length := by
    intro vs
    induction vs with
    | nil =>
      intro as z
      cases as with
      | nil => rfl
      | cons => exact z.elim
    | cons v vs ih =>
      intro as z
      cases as with
      | nil => exact z.elim
      | cons a as => exact congrArg (· + 1) (ih z.2)
  refine ⟨by rw [len hw]; exact hz, fun a na => ?_⟩
  refine ⟨a, ws, by rw [List.append_nil], by rw [len hw, hl], upd_same, fun dx H2 hdx hne h2a h2d oth => ?_⟩
  have hdx1 : H1 dx = none := by rwa [upd_ne hne] at hdx
  refine ⟨rfl, dx, _, h2a, h2d, hdx1, ?_⟩
  refine h ws H1 e1 hw dx _ (fun b o hb => ?_) upd_same
  have hba : b ≠ a := fun z => by rw [z, na] at hb; cases hb
  have hbd : b ≠ dx := fun z => by rw [z, hdx1] at hb; cases hb
  rw [upd_ne hbd, del_ne hba, oth b hba hbd, upd_ne hba]
  exact hb
end
section
variable {P : Program} {w : World} {K : PySem.W.Frag} {mg : Str → Option Value} {base : Heap} {C f cc cda : Addr} {q : Str}
theorem one_field {y v : V} {a : Addr} {H : Hp} {Q : VK} {fl : Str} (ha : H a = some (exo a C none)) (hox : OexC K C) (hno : PySem.W.findIn K (.ref C) fl = some none) (q : ∀ dx H2, H dx = none → dx ≠ a → H2 a = some (exo a C (some dx)) → H2 dx = some (exd dx [(fl, y)]) → (∀ b, b ≠ a → b ≠ dx → H2 b = H b) → Q .non H2) :
    tOst K fl (tVar 0) (tVar 1) { nx := fun _ H' => Q .non H', rt := Q } [some (.ref a), some y, some v] H := by
  refine ⟨y, rfl, .ref a, rfl, a, C, rfl, hox, hno, .inl ⟨ha, fun dx n ne => ?_⟩⟩
  refine q dx _ n ne upd_same (by rw [upd_ne ne]; exact upd_same) fun b b1 b2 => by rw [upd_ne b1, upd_ne b2]
theorem knc_BadFlag (hsup : mg "super" = none) (htop : (P.main.scope.names.lookup ("super" : Str)).isSome = false) (hg : mg "BadFlag" = some (.ref C)) (I : IniF P K C f cc cda q (defArgs (ini 3)) (defBody (ini 3)) (defScope (ini 3))) : KnC P w K mg base 2 "BadFlag" C ["self", "flag"] ["flag"] := by
  have hfd := I.fn
  obtain ⟨oc, od, kV, doc, pm, an, ct, osl, lkf⟩ := hfd
  have hS : NdefX.NScope ["self", "flag", "__class__"] ["self", "flag"] ["__class__"] (defScope (ini 3)) := NdefX.nscope_by (by decide +kernel)
  refine ⟨⟨f, _, fnI_ok (k := 1) (N := ["self", "flag", "__class__"]) hsup I hS rfl rfl rfl rfl htop (fun L => ⟨_, rfl⟩) (fun L => rfl) (fun L => rfl) (fun A outer s H a ws Q E hr hl ha qq => ?_) _ ⟨_, _, _, lkf⟩, ?_, I.ini, I.tyf⟩, I.ox, hg⟩
  · match ws, hl with
    | [y], _ =>
      refine ⟨_, (pss_one (ps_ost (pv 0) (pv 1))), ?_⟩
      exact one_field ha I.ox (I.nof _ (by decide)) qq
  · exact Binds.all fun us hl => match us, hl with | [_, _], _ => rfl
theorem knc_BadLikeness (hsup : mg "super" = none) (htop : (P.main.scope.names.lookup ("super" : Str)).isSome = false) (hg : mg "BadLikeness" = some (.ref C)) (I : IniF P K C f cc cda q (defArgs (ini 4)) (defBody (ini 4)) (defScope (ini 4))) : KnC P w K mg base 2 "BadLikeness" C ["self", "place"] ["place"] := by
  have hfd := I.fn
  obtain ⟨oc, od, kV, doc, pm, an, ct, osl, lkf⟩ := hfd
  have hS : NdefX.NScope ["self", "place", "__class__"] ["self", "place"] ["__class__"] (defScope (ini 4)) := NdefX.nscope_by (by decide +kernel)
  refine ⟨⟨f, _, fnI_ok (k := 1) (N := ["self", "place", "__class__"]) hsup I hS rfl rfl rfl rfl htop (fun L => ⟨_, rfl⟩) (fun L => rfl) (fun L => rfl) (fun A outer s H a ws Q E hr hl ha qq => ?_) _ ⟨_, _, _, lkf⟩, ?_, I.ini, I.tyf⟩, I.ox, hg⟩
  · match ws, hl with
    | [y], _ =>
      refine ⟨_, (pss_one (ps_ost (pv 0) (pv 1))), ?_⟩
      exact one_field ha I.ox (I.nof _ (by decide)) qq
  · exact Binds.all fun us hl => match us, hl with | [_, _], _ => rfl
theorem knc_NotJoined (hsup : mg "super" = none) (htop : (P.main.scope.names.lookup ("super" : Str)).isSome = false) (hg : mg "NotJoined" = some (.ref C)) (I : IniF P K C f cc cda q (defArgs (ini 5)) (defBody (ini 5)) (defScope (ini 5))) : KnC P w K mg base 2 "NotJoined" C ["self", "flag"] ["flag"] := by
  have hfd := I.fn
  obtain ⟨oc, od, kV, doc, pm, an, ct, osl, lkf⟩ := hfd
  have hS : NdefX.NScope ["self", "flag", "__class__"] ["self", "flag"] ["__class__"] (defScope (ini 5)) := NdefX.nscope_by (by decide +kernel)
  refine ⟨⟨f, _, fnI_ok (k := 1) (N := ["self", "flag", "__class__"]) hsup I hS rfl rfl rfl rfl htop (fun L => ⟨_, rfl⟩) (fun L => rfl) (fun L => rfl) (fun A outer s H a ws Q E hr hl ha qq => ?_) _ ⟨_, _, _, lkf⟩, ?_, I.ini, I.tyf⟩, I.ox, hg⟩
  · match ws, hl with
    | [y], _ =>
      refine ⟨_, (pss_one (ps_ost (pv 0) (pv 1))), ?_⟩
      exact one_field ha I.ox (I.nof _ (by decide)) qq
  · exact Binds.all fun us hl => match us, hl with | [_, _], _ => rfl
theorem knc_BadNet (hsup : mg "super" = none) (htop : (P.main.scope.names.lookup ("super" : Str)).isSome = false) (hg : mg "BadNet" = some (.ref C)) (I : IniF P K C f cc cda q (defArgs (ini 2)) (defBody (ini 2)) (defScope (ini 2))) : KnC P w K mg base 2 "BadNet" C ["self", "word", "flag"] ["word", "flag"] := by
  have hfd := I.fn
  obtain ⟨oc, od, kV, doc, pm, an, ct, osl, lkf⟩ := hfd
  have hS : NdefX.NScope ["self", "word", "flag", "__class__"] ["self", "word", "flag"] ["__class__"] (defScope (ini 2)) := NdefX.nscope_by (by decide +kernel)
  refine ⟨⟨f, _, fnI_ok (k := 1) (N := ["self", "word", "flag", "__class__"]) hsup I hS rfl rfl rfl rfl htop (fun L => ⟨_, rfl⟩) (fun L => rfl) (fun L => rfl) (fun A outer s H a ws Q E hr hl ha qq => ?_) _ ⟨_, _, _, lkf⟩, ?_, I.ini, I.tyf⟩, I.ox, hg⟩
  · match ws, hl with
    | [y, z], _ =>
      refine ⟨_, (pss_cons (ps_ost (pv 0) (pv 1)) (pss_one (ps_ost (pv 0) (pv 2)))), ?_⟩
      refine ⟨y, rfl, .ref a, rfl, a, C, rfl, I.ox, I.nof _ (by decide), .inl ⟨ha, fun dx n ne => ?_⟩⟩
      refine ⟨z, rfl, .ref a, rfl, a, C, rfl, I.ox, I.nof _ (by decide), .inr ⟨dx, [(("word" : Str), y)], upd_same, ?_, (by show 1 ≤ 900; omega), ?_⟩⟩
      · rw [upd_ne ne]
        exact upd_same
      · refine qq dx _ n ne ?_ upd_same fun b b1 b2 => by rw [upd_ne b2, upd_ne b1, upd_ne b2]
        rw [upd_ne (Ne.symm ne)]
        exact upd_same
  · exact Binds.all fun us hl => match us, hl with | [_, _, _], _ => rfl
end
end Nk
/-! ## X4: need_net .. reading_from, least_net, likeness -/
namespace Nk
open PySem PySem.Spec PyProof.Rows L2 Evl

structure Exs (P : Program) (w : World) (K : PySem.W.Frag) (mg : Str → Option Value) (base : Heap) (bn bf bl nj : Addr) : Prop where
  bnC : KnC P w K mg base 2 "BadNet" bn ["self", "word", "flag"] ["word", "flag"]
  bfC : KnC P w K mg base 2 "BadFlag" bf ["self", "flag"] ["flag"]
  blC : KnC P w K mg base 2 "BadLikeness" bl ["self", "place"] ["place"]
  njC : KnC P w K mg base 2 "NotJoined" nj ["self", "flag"] ["flag"]
  xbn : XfC K bn ∧ ∀ x ∈ ([("word" : Str), ("flag" : Str), ("place" : Str)] : List Str), PySem.W.findIn K (.ref bn) x = some none
  xbf : XfC K bf ∧ ∀ x ∈ ([("word" : Str), ("flag" : Str), ("place" : Str)] : List Str), PySem.W.findIn K (.ref bf) x = some none
  xbl : XfC K bl ∧ ∀ x ∈ ([("word" : Str), ("flag" : Str), ("place" : Str)] : List Str), PySem.W.findIn K (.ref bl) x = some none
  xnj : XfC K nj ∧ ∀ x ∈ ([("word" : Str), ("flag" : Str), ("place" : Str)] : List Str), PySem.W.findIn K (.ref nj) x = some none
  mnn : PySem.W.exmOne K (.ref bn) (.ref bn) = some true
  mfn : PySem.W.exmOne K (.ref bf) (.ref bn) = some false
  mln : PySem.W.exmOne K (.ref bl) (.ref bn) = some false
  mjn : PySem.W.exmOne K (.ref nj) (.ref bn) = some false
  mff : PySem.W.exmOne K (.ref bf) (.ref bf) = some true
  mjf : PySem.W.exmOne K (.ref nj) (.ref bf) = some false
  mll : PySem.W.exmOne K (.ref bl) (.ref bl) = some true
  mjj : PySem.W.exmOne K (.ref nj) (.ref nj) = some true

/-- a map: what the program lets through -/
structure Good (n : Nat) (s : Net) : Prop extends Back n s where
  four : 4 ≤ n
  most : n ≤ 960
  still : ∀ ch ∈ s, ∀ f < n, ch.getD f 0 ≠ f
  square : ∀ f < n, ap s 2 (ap s 0 f) = ap s 0 (ap s 2 f)
  apart : ∀ f < n, ap s 2 (ap s 0 f) ≠ f
abbrev Flt := Option (Str × Option Nat)
def fD : Option Nat → PyData
  | none => .none
  | some f => encN f
def encF : Flt → PyData
  | none => .none
  | some (r, f) => .tuple [.str r, fD f]
def fltF (s : Net) (n : Nat) : Flt := (rules.findSome? (fun r => (ruleFault s n r).map fun f => (r, f))).map fun p => (p.1, some p.2)
theorem faultD_enc (s : Net) (n : Nat) : faultD s n = encF (fltF s n) := by
  unfold faultD fltF
  cases rules.findSome? (fun r => (ruleFault s n r).map fun f => (r, f)) with
  | none => rfl
  | some p => rfl
def Fl (s : Net) (o : Flt) : Prop := (s.length ≠ 3 ∧ o = some (("form" : Str), none)) ∨ ∃ n, Form n s ∧ 4 ≤ n ∧ n ≤ 960 ∧ o = fltF s n
theorem rule_none {s : Net} {n : Nat} {r : Str} : ruleFault s n r = none ↔ ∀ f < n, brk s r f = false := by
  unfold ruleFault
  rw [List.find?_eq_none]
  constructor
  · intro h f hf
    have := h f (List.mem_range.mpr hf)
    simpa using this
  · intro h f hf
    rw [h f (List.mem_range.mp hf)]
    exact fun z => by cases z
theorem flt_none {s : Net} {n : Nat} : fltF s n = none ↔ ∀ r ∈ rules, ∀ f < n, brk s r f = false := by
  unfold fltF
  rw [Option.map_eq_none_iff, List.findSome?_eq_none_iff]
  constructor
  · intro h r hr
    have := h r hr
    rw [Option.map_eq_none_iff] at this
    exact rule_none.mp this
  · intro h r hr
    rw [Option.map_eq_none_iff]
    exact rule_none.mpr (h r hr)
theorem good_flt {n : Nat} {s : Net} (G : Good n s) : fltF s n = none := by
  rw [flt_none]
  intro r hr f hf
  have hr : r = "back" ∨ r = "still" ∨ r = "square" ∨ r = "apart" := by simpa [rules] using hr
  rcases hr with rfl | rfl | rfl | rfl
  · unfold brk
    rw [if_pos rfl, List.any_eq_false]
    intro ch hc
    rw [G.inv ch hc f hf]
    simp
  · unfold brk
    rw [if_neg (by decide), if_pos rfl, List.any_eq_false]
    intro ch hc
    simpa using G.still ch hc f hf
  · unfold brk
    rw [if_neg (by decide), if_neg (by decide), if_pos rfl, G.square f hf]
    simp
  · unfold brk
    rw [if_neg (by decide), if_neg (by decide), if_neg (by decide)]
    simpa using G.apart f hf
theorem Good.fl {n : Nat} {s : Net} (G : Good n s) : Fl s none := .inr ⟨n, G.toForm, G.four, G.most, (good_flt G).symm⟩
theorem Form.uniq {n m : Nat} {s : Net} (F : Form n s) (G : Form m s) : n = m := by
  obtain ⟨ch, _, _, h, hm⟩ := F.get (c := 0) (by omega)
  rw [← h, G.len ch hm]

section
variable {K : PySem.W.Frag} {H H' : Hp} {v : V} {Q : VK}
def fV : Option Nat → V
  | none => .non
  | some f => nv f
def RetR (K : PySem.W.Frag) (d : PyData) (H : Hp) (Q : VK) : Prop := ∀ v H2, Ex H H2 → Dr K H2 v d → Q v H2
end
def spNeed (K : PySem.W.Frag) (bn : Addr) : Sp := fun vs H Q E => ∃ (v : V) (s : Net) (o : Flt), vs = [v] ∧ Dp K H v (encNet s) ∧ Fl s o ∧ (o = none → RetV v H Q) ∧ (∀ r f, o = some (r, f) → Thr bn [(("flag" : Str), fV f), (("word" : Str), .str r)] H E)
def spNeedF (K : PySem.W.Frag) (bf : Addr) : Sp := fun vs H Q E => ∃ (v u : V) (n : Nat) (s : Net) (d : PyData), vs = [v, u] ∧ Dp K H v (encNet s) ∧ Form n s ∧ Dr K H u d ∧ (withinD d 0 ((n : Int) - 1) = true → RetV u H Q) ∧ (withinD d 0 ((n : Int) - 1) = false → Thr bf [(("flag" : Str), u)] H E)
def spGParts (K : PySem.W.Frag) : Sp := fun vs H Q _ => ∃ (v : V) (n : Nat) (s : Net), vs = [v] ∧ Dp K H v (encNet s) ∧ Good n s ∧ RetA K (.d (.tuple ((partsOf s n).map encS))) H Q
/-- the least flag of the second part -/
def second (s : Net) (n : Nat) : Nat := (srt ((partsOf s n).getD 1 [])).getD 0 0
def spJoin (K : PySem.W.Frag) (nj : Addr) : Sp := fun vs H Q E => ∃ (v : V) (n : Nat) (s : Net), vs = [v] ∧ Dp K H v (encNet s) ∧ Good n s ∧ ((partsOf s n).length ≤ 1 → RetV v H Q) ∧ (1 < (partsOf s n).length → Thr nj [(("flag" : Str), nv (second s n))] H E)
/-- what reading_from does with a net and a flag -/
def ReadP (K : PySem.W.Frag) (bn bf nj : Addr) (s : Net) (o : Flt) (u : V) (d : PyData) (H : Hp) (Q : VK) (E : XK) : Prop := (∀ r f, o = some (r, f) → Thr bn [(("flag" : Str), fV f), (("word" : Str), .str r)] H E) ∧
  (o = none → ∃ n, Good n s ∧ (withinD d 0 ((n : Int) - 1) = false → Thr bf [(("flag" : Str), u)] H E) ∧ (withinD d 0 ((n : Int) - 1) = true → 1 < (partsOf s n).length → Thr nj [(("flag" : Str), nv (second s n))] H E) ∧
    (withinD d 0 ((n : Int) - 1) = true → (partsOf s n).length ≤ 1 → ∀ x, d = encN x → RetA K (.d (encNet (rdg s n x))) H Q))
def spRead (K : PySem.W.Frag) (bn bf nj : Addr) : Sp := fun vs H Q E => ∃ (v u : V) (s : Net) (o : Flt) (d : PyData), vs = [v, u] ∧ Dp K H v (encNet s) ∧ Fl s o ∧ Dr K H u d ∧ ReadP K bn bf nj s o u d H Q E
def spLeastNet (K : PySem.W.Frag) : Sp := fun vs H Q _ => ∃ (v : V) (n : Nat) (s : Net), vs = [v] ∧ Dp K H v (encNet s) ∧ Good n s ∧ RetA K (.d (encNet (leastNet s n))) H Q
def spLike2 (K : PySem.W.Frag) : Sp := fun vs H Q _ => ∃ (v u : V) (n m : Nat) (s t : Net), vs = [v, u] ∧ Dp K H v (encNet s) ∧ Dp K H u (encNet t) ∧ Good n s ∧ Good m t ∧ RetA K (.d (optR (foundL s t n m))) H Q
def spAlike (K : PySem.W.Frag) : Sp := fun vs H Q _ => ∃ (v u : V) (n m : Nat) (s t : Net), vs = [v, u] ∧ Dp K H v (encNet s) ∧ Dp K H u (encNet t) ∧ Good n s ∧ Good m t ∧ RetA K (.d (.bool (foundL s t n m).isSome)) H Q
section
variable {K : PySem.W.Frag} {σ : L2.St} {H : Hp} {te : TE} {v : V} {bn : Addr} {D : Ends} {tz : TS}
/-- need_net of a map -/
theorem ev_need {E : XK} {s : Net} {n : Nat} (h : Ev te σ H v) (hN : Dp K H v (encNet s)) (G : Good n s) : Ev (tCall (spNeed K bn) [] E (tCons te tNil)) σ H v := fun H1 e Q q =>
  h H1 e _ fun H2 e2 => ⟨v, s, none, rfl, hN.mono (e.trans e2), G.fl, fun _ => fun H3 e3 => q H3 (e2.trans e3), fun r f z => by cases z⟩
end
theorem rfault {s : Net} {o : Flt} (h : Fl s o) : (s.length ≠ 3 ∧ encF o = .tuple [.str "form", .none]) ∨ ∃ n, Form n s ∧ 4 ≤ n ∧ n ≤ 960 ∧ encF o = faultD s n := by
  rcases h with ⟨h, rfl⟩ | ⟨n, h1, h2, h3, rfl⟩
  · exact .inl ⟨h, rfl⟩
  · exact .inr ⟨n, h1, h2, h3, (faultD_enc s n).symm⟩
section
variable {P : Program} {w : World} {K : PySem.W.Frag} {mg : Str → Option Value} {base : Heap} {bn bf bl nj : Addr}
theorem sc_need_net : FnScope ["net", "fault"] ["net"] (defScope (top 15)) := ⟨rfl, rfl, rfl, by decide +kernel, rfl, by decide +kernel, by decide +kernel⟩
theorem kn_need_net (T : Txt K mg) (XS : Exs P w K mg base bn bf bl nj) (G_net_fault : Kn P w K mg base CX0 4 "net_fault" ["value"] (spFault K)) : Kn P w K mg base (L2.CX P w) 5 "need_net" ["net"] (spNeed K bn) := by
  obtain ⟨f, fd, F, hm⟩ := (T.df 6 (p := (15, "need_net")) rfl)
  refine kn_okX F hm sc_need_net (fun _ _ _ _ _ _ us hl => match us, hl with | [_], _ => rfl) (fun vs H Q E h => ?_) (fun cdv A outer s H vs Q E hr h => ?_)
  · obtain ⟨v, s, o, rfl, _⟩ := h
    rfl
  · obtain ⟨v, s, o, rfl, hN, hf, q1, q2⟩ := h
    refine ⟨_, (pss_cons (ps_set (i := 1) sc_need_net.nd rfl (Or.inl rfl) (pe_kn G_net_fault (hr.mono (by decide)) (by rfl) pass0 (pa_cons (pv 0) pa_nil)))
  (pss_cons (ps_if (pt_cmpR op_notN (pv 1) pe_non (nomark _))
  (pss_one (ps_raise rfl (takes_of rfl rfl rfl rfl) (pmk_c XS.bnC (hr.mono (by decide)) (by rfl) (pa_cons (pe_ix (ixK_tup (K := K) (by rfl)) (pv 1) pe_int (fun _ _ => rfl)) (pa_cons (pe_ix (ixK_tup (K := K) (by rfl)) (pv 1) pe_int (fun _ _ => rfl)) pa_nil)))))
  pss_nil)
  (pss_one (ps_ret (pv 0))))), ?_⟩
    refine asg (a := .d (encF o)) (K := K) (fun H1 e1 Q q => ⟨v, rfl, v, s, encF o, rfl, hN.mono e1, rfault hf, q⟩) fun w H1 e1 hw => ?_
    cases o with
    | none =>
      cases Dp.non_eq hw
      refine q_when (b := false) (et_test (ev_is (ev_notN (ev_var (v := .non) rfl)) rfl)) (fun z => by cases z) (fun _ H2 e2 => ?_)
      exact s_ret (ev_var rfl) fun H3 e3 => q1 rfl H3 ((e1.trans e2).trans e3)
    | some p =>
      obtain ⟨r, f⟩ := p
      have hw : Dp K H1 w (.tuple [.str r, fD f]) := hw
      have hwr : ∃ a, w = .ref a := by cases hw; exact ⟨_, rfl⟩
      obtain ⟨a, rfl⟩ := hwr
      refine q_when (b := true) (et_test (ev_is (ev_notN (ev_var (v := .ref a) rfl)) rfl)) (fun _ H2 e2 => ?_) (fun z => by cases z)
      refine raise_c (as := [.d (.str r), .d (fD f)]) (gs_cons (g_ixT (i := 0) (g_dv rfl (Dp.mono hw e2)) g_int rfl) (gs_cons (g_ixT (i := 1) (g_dv rfl (Dp.mono hw e2)) g_int rfl) gs_nil)) (by show 2 ≤ 1000; omega) rfl fun ws H3 e3 hws => ?_
      match ws, hws with
      | [y, z], hws =>
        cases Dp.str_eq hws.1
        have hz : z = fV f := by
          have h : Dp K H3 z (fD f) := hws.2.1
          cases f with
          | none => exact Dp.non_eq h
          | some f => exact Dp.int_eq h
        subst hz
        exact fun d H4 e4 hd => q2 r f rfl d H4 (((e1.trans e2).trans e3).trans e4) hd
theorem sc_need_flag : FnScope ["net", "flag"] ["net", "flag"] (defScope (top 16)) := ⟨rfl, rfl, rfl, by decide +kernel, rfl, by decide +kernel, by decide +kernel⟩
theorem kn_need_flag (T : Txt K mg) (XS : Exs P w K mg base bn bf bl nj) (G_is_within : Kn P w K mg base CX0 2 "is_within" ["value", "low", "high"] (spWithin K)) : Kn P w K mg base (L2.CX P w) 4 "need_flag" ["net", "flag"] (spNeedF K bf) := by
  obtain ⟨f, fd, F, hm⟩ := (T.df 7 (p := (16, "need_flag")) rfl)
  refine kn_okX F hm sc_need_flag (fun _ _ _ _ _ _ us hl => match us, hl with | [_, _], _ => rfl) (fun vs H Q E h => ?_) (fun cdv A outer s H vs Q E hr h => ?_)
  · obtain ⟨v, u, n, s, d, rfl, _⟩ := h
    rfl
  · obtain ⟨v, u, n, s, d, rfl, hN, F, hd, q1, q2⟩ := h
    refine ⟨_, (pss_cons (ps_if (pt_not (pt_val (pe_kn G_is_within (hr.mono (by decide)) (by rfl) pass0 (pa_cons (pv 1) (pa_cons pe_int (pa_cons (pe_op op_sub (pe_callB (cK_len (K := K) (by rfl)) (by rfl) T.len bt_len (pa_cons (pe_ix (ixK_tup (K := K) (by rfl)) (pv 0) pe_int (fun _ _ => rfl)) pa_nil)) pe_int) pa_nil))))))
  (pss_one (ps_raise rfl (takes_of rfl rfl rfl rfl) (pmk_c XS.bfC (hr.mono (by decide)) (by rfl) (pa_cons (pv 1) pa_nil))))
  pss_nil)
  (pss_one (ps_ret (pv 1)))), ?_⟩
    refine q_when (et_not (et_of (K := K) (g_call (gs_cons (g_vv rfl) (gs_cons g_int (gs_cons (g_op (g_len0 F (g_dv rfl hN)) g_int rg_sub) gs_nil))) (spg_within hd)))) (fun hb H1 e1 => ?_) (fun hb H1 e1 => ?_)
    · refine raise_c (K := K) (as := [.v u]) (gs_cons (g_vv rfl) gs_nil) (by show 1 ≤ 1000; omega) rfl fun ws H3 e3 hws => ?_
      match ws, hws with
      | [y], hws =>
        have hy : y = u := hws.1
        subst hy
        exact fun d H4 e4 hd => q2 (by simpa using hb) d H4 ((e1.trans e3).trans e4) hd
    · exact s_ret (ev_var rfl) fun H3 e3 => q1 (by simpa using hb) H3 (e1.trans e3)
theorem sc_parts : FnScope ["net"] ["net"] (defScope (top 20)) := ⟨rfl, rfl, rfl, by decide +kernel, rfl, by decide +kernel, by decide +kernel⟩
theorem kn_parts (T : Txt K mg) (XS : Exs P w K mg base bn bf bl nj) (G_need_net : Kn P w K mg base (L2.CX P w) 5 "need_net" ["net"] (spNeed K bn)) (G_all_parts : Kn P w K mg base CX0 2 "all_parts" ["net"] (spParts K)) : Kn P w K mg base CX0 6 "parts" ["net"] (spGParts K) := by
  obtain ⟨f, fd, F, hm⟩ := (T.df 11 (p := (20, "parts")) rfl)
  refine kn_ok F hm sc_parts (fun _ _ _ _ _ _ us hl => match us, hl with | [_], _ => rfl) (fun vs H Q E h => ?_) (fun cdv A outer s H vs Q E hr h => ?_)
  · obtain ⟨v, n, s, rfl, _⟩ := h
    rfl
  · obtain ⟨v, n, s, rfl, hN, G, q⟩ := h
    refine ⟨_, (pss_one (ps_ret (pe_kn G_all_parts (hr.mono (by decide)) (by rfl) pass0 (pa_cons (pe_kn G_need_net (hr.mono (by decide)) (by rfl) passL (pa_cons (pv 0) pa_nil)) pa_nil)))), ?_⟩
    refine retA (K := K) (a := .d (.tuple ((partsOf s n).map encS))) (g_call (gs_cons (g_of_ev (ev_need (ev_var rfl) hN G)) gs_nil) (fun vs H1 e1 hv Q E q => ?_)) q rfl
    match vs, hv with
    | [z], hv =>
      have hz : z = v := hv.1
      subst hz
      exact ⟨z, n, s, rfl, hN.mono e1, G.toBack, Nat.le_trans G.most (by omega), q⟩
theorem sc_need_joined : FnScope ["net", "found"] ["net"] (defScope (top 21)) := ⟨rfl, rfl, rfl, by decide +kernel, rfl, by decide +kernel, by decide +kernel⟩
theorem kn_need_joined (T : Txt K mg) (XS : Exs P w K mg base bn bf bl nj) (G_parts : Kn P w K mg base CX0 6 "parts" ["net"] (spGParts K)) : Kn P w K mg base (L2.CX P w) 7 "need_joined" ["net"] (spJoin K nj) := by
  obtain ⟨f, fd, F, hm⟩ := (T.df 12 (p := (21, "need_joined")) rfl)
  refine kn_okX F hm sc_need_joined (fun _ _ _ _ _ _ us hl => match us, hl with | [_], _ => rfl) (fun vs H Q E h => ?_) (fun cdv A outer s H vs Q E hr h => ?_)
  · obtain ⟨v, n, s, rfl, _⟩ := h
    rfl
  · obtain ⟨v, n, s, rfl, hN, G, q1, q2⟩ := h
    refine ⟨_, (pss_cons (ps_set (i := 1) sc_need_joined.nd rfl (Or.inl rfl) (pe_kn G_parts (hr.mono (by decide)) (by rfl) pass0 (pa_cons (pv 0) pa_nil)))
  (pss_cons (ps_if (pt_cmpR op_gt (pe_callB (cK_len (K := K) (by rfl)) (by rfl) T.len bt_len (pa_cons (pv 1) pa_nil)) pe_int (nomark _))
  (pss_one (ps_raise rfl (takes_of rfl rfl rfl rfl) (pmk_c XS.njC (hr.mono (by decide)) (by rfl) (pa_cons (pe_ix (ixK_tup (K := K) (by rfl)) (pe_ix (ixK_tup (K := K) (by rfl)) (pv 1) pe_int (fun _ _ => rfl)) pe_int (fun _ _ => rfl)) pa_nil))))
  pss_nil)
  (pss_one (ps_ret (pv 0))))), ?_⟩
    refine asg (a := .d (.tuple ((partsOf s n).map encS))) (K := K) (fun H1 e1 Q q => ⟨v, rfl, v, n, s, rfl, hN.mono e1, G, q⟩) fun w H1 e1 hw => ?_
    refine q_when (et_of (K := K) (g_op (g_lenT (g_dv rfl hw)) (g_int (i := 1)) rg_gt)) (fun hb H2 e2 => ?_) (fun hb H2 e2 => ?_)
    · have hl : 1 < (partsOf s n).length := by
        have := of_decide_eq_true hb
        rw [List.length_map] at this
        omega
      obtain ⟨r, hr1⟩ : ∃ r, (partsOf s n)[1]? = some r := ⟨_, List.getElem?_eq_getElem hl⟩
      have hrn := part_ne G.toBack (List.mem_of_getElem? hr1)
      have hg : (partsOf s n).getD 1 [] = r := by rw [List.getD_eq_getElem?_getD, hr1]; rfl
      obtain ⟨x, hx⟩ : ∃ x, (srt r)[0]? = some x := ⟨_, List.getElem?_eq_getElem (by rw [srt_len]; exact List.length_pos_iff.mpr hrn)⟩
      refine raise_c (K := K) (as := [.d (encN x)]) (gs_cons (g_ixT (i := 0) (g_ixT (i := 1) (ds := (partsOf s n).map encS) (d := encS r) (g_dv rfl (Dp.mono hw e2)) g_int (by rw [List.getElem?_map, hr1]; rfl)) g_int (encR_get hx)) gs_nil) (by show 1 ≤ 1000; omega) rfl fun ws H3 e3 hws => ?_
      match ws, hws with
      | [y], hws =>
        cases Dp.int_eq hws.1
        have hsec : second s n = x := by
          unfold second
          rw [hg, getD_of hx]
        rw [hsec] at q2
        exact fun d H4 e4 hd => q2 hl d H4 (((e1.trans e2).trans e3).trans e4) hd
    · exact s_ret (ev_var rfl) fun H3 e3 => q1 (by
        have := of_decide_eq_false hb
        rw [List.length_map] at this
        omega) H3 ((e1.trans e2).trans e3)
theorem Thr.mono {C : Addr} {fs : List (Str × V)} {H H' : Hp} {E : XK} (h : Thr C fs H E) (e : Ex H H') : Thr C fs H' E := fun d H2 e2 hd => h d H2 (e.trans e2) hd
theorem within_nat {d : PyData} {n : Nat} (h : withinD d 0 ((n : Int) - 1) = true) : ∃ x, d = encN x ∧ x < n := by
  cases d with
  | int i =>
    have h : (decide (0 ≤ i) && decide (i ≤ (n : Int) - 1)) = true := h
    obtain ⟨h1, h2⟩ := Bool.and_eq_true_iff.mp h
    have h1 := of_decide_eq_true h1
    have h2 := of_decide_eq_true h2
    exact ⟨i.toNat, by unfold encN; rw [Int.toNat_of_nonneg h1], by omega⟩
  | _ => cases h
theorem sc_reading_from : FnScope ["net", "flag"] ["net", "flag"] (defScope (top 24)) := ⟨rfl, rfl, rfl, by decide +kernel, rfl, by decide +kernel, by decide +kernel⟩
theorem kn_reading_from (T : Txt K mg) (XS : Exs P w K mg base bn bf bl nj) (G_need_net : Kn P w K mg base (L2.CX P w) 5 "need_net" ["net"] (spNeed K bn)) (G_need_flag : Kn P w K mg base (L2.CX P w) 4 "need_flag" ["net", "flag"] (spNeedF K bf))
    (G_need_joined : Kn P w K mg base (L2.CX P w) 7 "need_joined" ["net"] (spJoin K nj)) (G_numbered : Kn P w K mg base CX0 1 "numbered" ["net", "row"] (spNum K)) (G_met_from : Kn P w K mg base CX0 1 "met_from" ["net", "flag"] (spBfs K)) :
    Kn P w K mg base (L2.CX P w) 8 "reading_from" ["net", "flag"] (spRead K bn bf nj) := by
  obtain ⟨f, fd, F, hm⟩ := (T.df 14 (p := (24, "reading_from")) rfl)
  refine kn_okX F hm sc_reading_from (fun _ _ _ _ _ _ us hl => match us, hl with | [_, _], _ => rfl) (fun vs H Q E h => ?_) (fun cdv A outer s H vs Q E hr h => ?_)
  · obtain ⟨v, u, s, o, d, rfl, _⟩ := h
    rfl
  · obtain ⟨v, u, s, o, d, rfl, hN, hf, hd, q1, q2⟩ := h
    refine ⟨_, (pss_cons (ps_expr (pe_kn G_need_net (hr.mono (by decide)) (by rfl) (passX rfl rfl rfl rfl) (pa_cons (pv 0) pa_nil)))
  (pss_cons (ps_expr (pe_kn G_need_flag (hr.mono (by decide)) (by rfl) (passX rfl rfl rfl rfl) (pa_cons (pv 0) (pa_cons (pv 1) pa_nil))))
  (pss_cons (ps_expr (pe_kn G_need_joined (hr.mono (by decide)) (by rfl) (passX rfl rfl rfl rfl) (pa_cons (pv 0) pa_nil)))
  (pss_one (ps_ret (pe_kn G_numbered (hr.mono (by decide)) (by rfl) pass0 (pa_cons (pv 0) (pa_cons (pe_kn G_met_from (hr.mono (by decide)) (by rfl) pass0 (pa_cons (pv 0) (pa_cons (pv 1) pa_nil))) pa_nil)))))))), ?_⟩
    refine ⟨v, rfl, v, s, o, rfl, hN, hf, fun ho H2 e2 => ?_, q1⟩
    obtain ⟨n, G, qf, qj, qr⟩ := q2 ho
    refine ⟨v, rfl, u, rfl, v, u, n, s, d, rfl, hN.mono e2, G.toForm, dr_mono hd e2, fun hw H3 e3 => ?_, fun hw => (qf hw).mono e2⟩
    have e23 := e2.trans e3
    refine ⟨v, rfl, v, n, s, rfl, hN.mono e23, G, fun hl H4 e4 => ?_, fun hl => (qj hw hl).mono e23⟩
    have e24 := e23.trans e4
    obtain ⟨x, rfl, hx⟩ := within_nat hw
    have hu := dr_int hd
    subst hu
    have hn := G.most
    exact retA (K := K) (a := .d (encNet (rdg s n x))) (g_rdg (g_dv rfl (hN.mono e24)) (g_dv rfl (hN.mono e24)) (g_vn rfl) G.toForm hx (by omega)) (fun v H5 e5 hv => qr hw hl x rfl v H5 (e24.trans e5) hv) rfl
theorem sc_least_net : FnScope ["net", "found", "least", "other"] ["net"] (defScope (top 27)) := ⟨rfl, rfl, rfl, by decide +kernel, rfl, by decide +kernel, by decide +kernel⟩
theorem kn_least_net (T : Txt K mg) (XS : Exs P w K mg base bn bf bl nj) (G_need_net : Kn P w K mg base (L2.CX P w) 5 "need_net" ["net"] (spNeed K bn)) (G_least_parts : Kn P w K mg base CX0 3 "least_parts" ["net"] (spLeastParts K)) (G_laid_beside : Kn P w K mg base CX0 1 "laid_beside" ["net", "other_net"] (spLaid K)) :
    Kn P w K mg base CX0 6 "least_net" ["net"] (spLeastNet K) := by
  obtain ⟨f, fd, F, hm⟩ := (T.df 17 (p := (27, "least_net")) rfl)
  refine kn_ok F hm sc_least_net (fun _ _ _ _ _ _ us hl => match us, hl with | [_], _ => rfl) (fun vs H Q E h => ?_) (fun cdv A outer s H vs Q E hr h => ?_)
  · obtain ⟨v, n, s, rfl, _⟩ := h
    rfl
  · obtain ⟨v, n, s, rfl, hN, G, q⟩ := h
    have B := G.toBack
    have hn := G.most
    have h4 := G.four
    refine ⟨_, (pss_cons (ps_set (i := 1) sc_least_net.nd rfl (Or.inl rfl) (pe_kn G_least_parts (hr.mono (by decide)) (by rfl) pass0 (pa_cons (pe_kn G_need_net (hr.mono (by decide)) (by rfl) passL (pa_cons (pv 0) pa_nil)) pa_nil)))
  (pss_cons (ps_set (i := 2) sc_least_net.nd rfl (Or.inl rfl) (pe_ix (ixK_list (K := K) (by rfl)) (pv 1) pe_int (fun _ _ => rfl)))
  (pss_cons (ps_for PassesOwn.never rfl (piK_list (K := K) (by rfl) (pe_slice (slK_list (K := K) (by rfl)) (pv 1) (po_some pe_int) po_none)) (pg_name (i := 3) sc_least_net.nd rfl (by first | exact Or.inl rfl | exact Or.inr rfl))
  (pss_one (ps_set (i := 2) sc_least_net.nd rfl (Or.inl rfl) (pe_kn G_laid_beside (hr.mono (by decide)) (by rfl) pass0 (pa_cons (pv 2) (pa_cons (pv 3) pa_nil))))))
  (pss_one (ps_ret (pv 2)))))), ?_⟩
    obtain ⟨p0, L, hpL⟩ : ∃ p0 L, sprs s n = p0 :: L := by
      cases hs : sprs s n with
      | nil =>
        have := sprs_len s n
        rw [hs] at this
        exact absurd (List.length_eq_zero_iff.mp this.symm) (parts_ne B (by omega))
      | cons p L => exact ⟨p, L, rfl⟩
    have hlL : L.length ≤ n := by
      have := sprs_len s n
      rw [hpL, List.length_cons] at this
      have := (partsOf_inv B).len
      omega
    refine asg (K := K) (a := .d (.list ((p0 :: L).map fun p => encNet p.2))) (g_call (gs_cons (g_of_ev (ev_need (ev_var rfl) hN G)) gs_nil) (fun vs H1 e1 hv Q E q => ?_)) fun l H1 e1 hl => ?_
    · match vs, hv with
      | [z], hv =>
        have hz : z = v := hv.1
        subst hz
        exact ⟨z, n, s, rfl, hN.mono e1, B, by omega, by rw [hpL]; exact q⟩
    · have hl : Dp K H1 l (.list ((p0 :: L).map fun p => encNet p.2)) := hl
      refine asg (g_ixL (K := K) (i := 0) (d := encNet p0.2) (g_dv rfl hl) g_int rfl) fun a H2 e2 ha => ?_
      refine q_forGd (K := K) (ds := L.map fun p => encNet p.2) (g_is (g_slL (lo := 1) (g_dv rfl (hl.mono e2)) g_int) rfl) (fun H3 i σ H' => ∃ (a y3 : Option V) (b : V), a = some b ∧ σ = [some v, some l, a, y3] ∧ Ex H3 H' ∧ Dp K H' b (encNet ((L.take i).foldl layStep p0).2))
        (fun H3 e3 => ⟨some a, none, a, rfl, rfl, Ex.refl H3, Dp.mono ha e3⟩) (fun H3 i σ H' hP => let ⟨_, _, _, _, _, e, _⟩ := hP; e) (fun H3 i x d σ H' e3 hd hx hP => ?_) (fun H3 σ H' e3 hP => ?_)
      · obtain ⟨_, y3, b, rfl, rfl, e, hb⟩ := hP
        rw [List.getElem?_map] at hd
        obtain ⟨p, hp, rfl⟩ := Option.map_eq_some_iff.mp hd
        have hpf := prs_form B p (by rw [hpL]; exact List.mem_cons_of_mem _ (List.mem_of_getElem? hp))
        obtain ⟨f1, f2, f3⟩ := lay_pre B hpL i
        refine s_asgG (K := K) (a := .d (encNet (laid ((L.take i).foldl layStep p0).1 ((L.take i).foldl layStep p0).2 p.2))) (g_call (gs_cons (g_dv rfl hb) (gs_cons (g_dv rfl hx) gs_nil)) (spg_laid f1 hpf.1 (by omega) (by omega) f3)) fun c H5 e5 hc => ?_
        refine ⟨_, _, c, rfl, rfl, e.trans e5, ?_⟩
        rw [lay_next hp]
        exact hc
      · obtain ⟨_, y3, b, rfl, rfl, e, hb⟩ := hP
        rw [List.length_map, List.take_length] at hb
        have hfin : (L.foldl layStep p0).2 = leastNet s n := by
          unfold leastNet
          rw [hpL]
          rfl
        rw [hfin] at hb
        exact retA (K := K) (a := .d (encNet (leastNet s n))) (g_dv rfl hb) (fun v H5 e5 hv => q v H5 ((((e1.trans e2).trans e3).trans e).trans e5) hv) rfl
theorem sc_likeness : FnScope ["net", "other_net"] ["net", "other_net"] (defScope (top 31)) := ⟨rfl, rfl, rfl, by decide +kernel, rfl, by decide +kernel, by decide +kernel⟩
theorem kn_likeness (T : Txt K mg) (XS : Exs P w K mg base bn bf bl nj) (G_need_net : Kn P w K mg base (L2.CX P w) 5 "need_net" ["net"] (spNeed K bn)) (G_found_likeness : Kn P w K mg base CX0 3 "found_likeness" ["net", "other_net"] (spFound K)) : Kn P w K mg base CX0 6 "likeness" ["net", "other_net"] (spLike2 K) := by
  obtain ⟨f, fd, F, hm⟩ := (T.df 21 (p := (31, "likeness")) rfl)
  refine kn_ok F hm sc_likeness (fun _ _ _ _ _ _ us hl => match us, hl with | [_, _], _ => rfl) (fun vs H Q E h => ?_) (fun cdv A outer s H vs Q E hr h => ?_)
  · obtain ⟨v, u, n, m, s, t, rfl, _⟩ := h
    rfl
  · obtain ⟨v, u, n, m, s, t, rfl, hN, hM, G, G2, q⟩ := h
    have hn := G.most
    have hm := G2.most
    refine ⟨_, (pss_cons (ps_expr (pe_kn G_need_net (hr.mono (by decide)) (by rfl) passL (pa_cons (pv 0) pa_nil)))
  (pss_cons (ps_expr (pe_kn G_need_net (hr.mono (by decide)) (by rfl) passL (pa_cons (pv 1) pa_nil)))
  (pss_one (ps_ret (pe_kn G_found_likeness (hr.mono (by decide)) (by rfl) pass0 (pa_cons (pv 0) (pa_cons (pv 1) pa_nil))))))), ?_⟩
    refine q_drop (ev_need (K := K) (ev_var rfl) hN G) fun H1 e1 => ?_
    refine q_drop (ev_need (K := K) (ev_var rfl) (hM.mono e1) G2) fun H2 e2 => ?_
    refine retA (K := K) (a := .d (optR (foundL s t n m))) (g_call (gs_cons (g_dv rfl (hN.mono (e1.trans e2))) (gs_cons (g_dv rfl (hM.mono (e1.trans e2))) gs_nil)) (fun vs H1 e1 hv Q E q => ?_)) (fun v H5 e5 hv => q v H5 ((e1.trans e2).trans e5) hv) rfl
    match vs, hv with
    | [a, b], hv => exact ⟨a, b, n, m, s, t, rfl, hv.1, hv.2.1, G.toBack, G2.toForm, by omega, by omega, q⟩
theorem sc_are_alike : FnScope ["net", "other_net"] ["net", "other_net"] (defScope (top 32)) := ⟨rfl, rfl, rfl, by decide +kernel, rfl, by decide +kernel, by decide +kernel⟩
theorem kn_are_alike (T : Txt K mg) (G_likeness : Kn P w K mg base CX0 6 "likeness" ["net", "other_net"] (spLike2 K)) : Kn P w K mg base CX0 7 "are_alike" ["net", "other_net"] (spAlike K) := by
  obtain ⟨f, fd, F, hm⟩ := (T.df 22 (p := (32, "are_alike")) rfl)
  refine kn_ok F hm sc_are_alike (fun _ _ _ _ _ _ us hl => match us, hl with | [_, _], _ => rfl) (fun vs H Q E h => ?_) (fun cdv A outer s H vs Q E hr h => ?_)
  · obtain ⟨v, u, n, m, s, t, rfl, _⟩ := h
    rfl
  · obtain ⟨v, u, n, m, s, t, rfl, hN, hM, G, G2, q⟩ := h
    refine ⟨_, (pss_one (ps_ret (pe_cmpR op_notN (pe_kn G_likeness (hr.mono (by decide)) (by rfl) pass0 (pa_cons (pv 0) (pa_cons (pv 1) pa_nil))) pe_non (nomark _)))), ?_⟩
    refine retA (K := K) (a := .d (.bool (foundL s t n m).isSome)) (fun H1 e1 Q q => ?_) q rfl
    refine ⟨v, rfl, u, rfl, v, u, n, m, s, t, rfl, hN.mono e1, hM.mono e1, G, G2, fun z H2 e2 hz => ?_⟩
    cases hf : foundL s t n m with
    | none =>
      rw [hf] at hz
      cases Dp.non_eq hz
      rw [hf] at q
      exact ⟨rfl, q _ H2 e2 (.bl _)⟩
    | some l =>
      rw [hf] at hz q
      obtain ⟨a, rfl, _⟩ := dp_ofR hz
      exact ⟨rfl, q _ H2 e2 (.bl _)⟩
end
end Nk
/-! ## W9: likeness_fault, _law_place -/
namespace Nk
open PySem PySem.Spec PyProof.Rows L2 Evl

def toN : PyData → Nat
  | .int i => i.toNat
  | _ => 0
def valN (d : PyData) (n : Nat) : Option (List Nat) := match d with
  | .tuple ds => if ds.length = n ∧ (ds.all fun d => withinD d 0 ((n : Int) - 1)) = true then some (ds.map toN) else none
  | _ => none
def badAt (s t : Net) (l : List Nat) (f : Nat) : Bool := decide (l.getD f 0 ∈ l.take f) || ([0, 1, 2] : List Nat).any fun c => !decide (ap t c (l.getD f 0) = l.getD (ap s c f) 0)
def firstBad (s t : Net) (n : Nat) (l : List Nat) : Option Nat := (List.range n).find? (badAt s t l)
def place (s t : Net) (n m : Nat) (d : PyData) : Option (Option Nat) := if m ≠ n then none else (valN d n).map fun l => firstBad s t n l
def encLF : Option (Option Nat) → PyData
  | none => .tuple [.none]
  | some none => .tuple []
  | some (some f) => .tuple [encN f]
def encPl : Option (Option Nat) → PyData
  | none => .none
  | some none => .int (-1)
  | some (some f) => encN f
section
variable {K : PySem.W.Frag} {σ : L2.St} {H H' : Hp} {te tl th : TE} {t : TT} {v : V} {ds : List PyData}
/-- over a tuple of any values -/
theorem g_lcTr {j : Nat} {vs : List Nat} (f : Nat → Bool) (D : Nat → PyData) (h : Ev tl σ H v) (hv : Dr K H v (.tuple ds)) (hz : ds.length ≤ 40000) (hw : ∀ x, wipe ((wipe σ vs).set j (some x)) vs = wipe σ vs) (hfl : ∀ i, flatT (D i) = true)
    (ht : ∀ (i : Nat) (x : V) (d : PyData) H1, Ex H H1 → ds[i]? = some d → Dr K H1 x d → EvT t ((wipe σ vs).set j (some x)) H1 (f i))
    (he : ∀ (i : Nat) (x : V) (d : PyData) H1, Ex H H1 → ds[i]? = some d → Dr K H1 x d → f i = true → EvG K te ((wipe σ vs).set j (some x)) H1 (.d (D i))) :
    EvG K (tLc (iTup K tl) (gName j) t te vs) σ H (.d (.list (givenD ds.length f D))) := fun H0 e Q q => by
  obtain ⟨p, xs, rfl, h1, h2⟩ := dr_tup hv
  refine h H0 e _ fun H1 e1 => ?_
  have h1' := ex_t (e.trans e1) h1
  have h2' := drAll_mono h2 (e.trans e1)
  refine ⟨p, rfl, ⟨xs, h1'⟩, fun Dl hD => ?_⟩
  rw [← drAll_len h2] at q
  refine lc_tup (xs := xs) (CwG K H1 f D Dl) (cwg_start hD) (fun i H' _ p => ex_t p.2.1 h1') (fun i x H' hi p => ?_) (fun H' p => q _ H' (e1.trans p.2.1) (cwg_done p))
  obtain ⟨d, hd, hp⟩ := drAll_getv h2' hi
  exact ⟨hw x, cwg_turn p (by have := (List.getElem?_eq_some_iff.mp hi).1; have := drAll_len h2; omega) hfl (ht i x d H1 (e.trans e1) hd hp) (fun hf => he i x d H1 (e.trans e1) hd hp hf)⟩
theorem dr_nats : ∀ {l : List Nat} {vs : List V}, DrAll K H vs (l.map encN) → DpAll K H vs (l.map encN)
  | [], _, h => by cases h; exact .nil
  | n :: l, _, h => by
    cases h with
    | cons h1 h2 =>
      cases dr_int h1
      exact .cons (.int _) (dr_nats h2)
theorem dr_row {l : List Nat} (h : Dr K H v (encR l)) : Dp K H v (encR l) := by
  obtain ⟨a, xs, rfl, h1, h2⟩ := dr_tup h
  exact .tup h1 (dr_nats h2)
theorem rg_neD {i j : Int} : RG K (rNeD K) H (.d (.int i)) (.d (.int j)) (.d (.bool (!decide (i = j)))) := fun x y H1 e hx hy Q q => by
  refine ⟨.int i, .int j, hx, hy, rfl, rfl, ?_⟩
  have : PyData.eqv (.int i) (.int j) = decide (i = j) := by simp [PyData.eqv, Bool.beq_eq_decide_eq]
  rw [this]
  exact q _ H1 (Ex.refl H1) (.bl _)
theorem rg_eqD {i j : Int} : RG K (rEqD K) H (.d (.int i)) (.d (.int j)) (.d (.bool (decide (i = j)))) := fun x y H1 e hx hy Q q => by
  refine ⟨.int i, .int j, hx, hy, rfl, rfl, ?_⟩
  have : PyData.eqv (.int i) (.int j) = decide (i = j) := by simp [PyData.eqv, Bool.beq_eq_decide_eq]
  rw [this]
  exact q _ H1 (Ex.refl H1) (.bl _)
/-- t[:hi] -/
theorem g_slTo {hi : Nat} (h : EvG K te σ H (.d (.tuple ds))) (h1 : EvG K th σ H (.d (.int hi))) : EvG K (tSl (rSlA K) te tNoPart (tPart th)) σ H (.d (.tuple (ds.take hi))) := fun H1 e Q q =>
  h H1 e _ fun w H2 e2 hw => h1 H2 (e.trans e2) _ fun z H3 e3 hz => by
    cases Dp.int_eq hz
    cases (Dp.mono hw e3) with
    | @tup p xs _ a b =>
      have ec : cutV xs none (some (hi : Int)) = xs.take hi := by
        unfold cutV
        rw [HT.sIx_none, HT.sIx_nat, List.drop_zero, Nat.sub_zero]
        by_cases hlo : hi ≤ xs.length
        · rw [Nat.min_eq_left hlo]
        · rw [Nat.min_eq_right (by omega), List.take_of_length_le (Nat.le_refl _), List.take_of_length_le (by omega)]
      refine ⟨(hi : Int), rfl, p, xs, rfl, a, fun hh => ?_, fun _ l hl => ?_⟩
      · have hge : xs.length ≤ hi := by
          have := hh.2
          rw [HT.sIx_nat] at this
          omega
        refine q _ _ (e2.trans e3) ?_
        rw [List.take_of_length_le (by rw [← b.length]; exact hge)]
        exact .tup a b
      · rw [ec]
        exact q _ _ ((e2.trans e3).trans (Ex.new hl)) (.tup (st_of upd_same) ((b.take hi).mono (Ex.new hl)))
theorem inV_nat (a : Nat) : ∀ l : List Nat, inV (nv a) (nl l) = decide (a ∈ l)
  | [] => by simp [inV, nl]
  | b :: l => by
    have ih := inV_nat a l
    have e1 : eqV (nv b) (nv a) = decide (a = b) := by
      show ((b : Int) == (a : Int)) = _
      rw [Bool.beq_eq_decide_eq, decide_eq_decide]
      omega
    show (eqV (nv b) (nv a) || inV (nv a) (nl l)) = _
    rw [e1, ih, ← Bool.decide_or, decide_eq_decide, List.mem_cons]
theorem rg_inR {a : Nat} {l : List Nat} : RG K (rIn K false) H (.d (encN a)) (.d (encR l)) (.d (.bool (decide (a ∈ l)))) := fun x y H1 e hx hy Q q => by
  cases Dp.int_eq hx
  obtain ⟨c, rfl, hc⟩ := dp_ofR hy
  refine ⟨c, nl l, rfl, .inr hc, rfl, ?_, ?_⟩
  · unfold nl
    rw [List.all_map]
    exact List.all_eq_true.mpr fun _ _ => rfl
  · have : inV (.int (a : Int)) (nl l) = decide (a ∈ l) := inV_nat a l
    rw [this]
    exact q _ H1 (Ex.refl H1) (.bl _)
end
theorem withinD_encN {x n : Nat} (h : x < n) : withinD (encN x) 0 ((n : Int) - 1) = true := by
  show (decide ((0 : Int) ≤ x) && decide ((x : Int) ≤ (n : Int) - 1)) = true
  rw [Bool.and_eq_true]
  exact ⟨decide_eq_true (by omega), decide_eq_true (by omega)⟩
theorem vals_nat {n : Nat} : ∀ {ds : List PyData}, (ds.all fun d => withinD d 0 ((n : Int) - 1)) = true → ds = (ds.map toN).map encN ∧ ∀ x ∈ ds.map toN, x < n
  | [], _ => ⟨rfl, fun x hx => by cases hx⟩
  | d :: ds, h => by
    rw [List.all_cons, Bool.and_eq_true] at h
    obtain ⟨x, rfl, hx⟩ := within_nat h.1
    obtain ⟨e, l⟩ := vals_nat h.2
    have et : toN (encN x) = x := by show ((x : Int)).toNat = x; exact Int.toNat_natCast x
    refine ⟨?_, fun y hy => ?_⟩
    · rw [List.map_cons, List.map_cons, et, ← e]
    · rw [List.map_cons, et] at hy
      rcases List.mem_cons.mp hy with rfl | hy
      · exact hx
      · exact l y hy
theorem valN_some {d : PyData} {n : Nat} {l : List Nat} (h : valN d n = some l) : d = encR l ∧ l.length = n ∧ ∀ x ∈ l, x < n := by
  unfold valN at h
  cases d with
  | tuple ds =>
    have h : (if ds.length = n ∧ (ds.all fun d => withinD d 0 ((n : Int) - 1)) = true then some (ds.map toN) else none) = some l := h
    by_cases c : ds.length = n ∧ (ds.all fun d => withinD d 0 ((n : Int) - 1)) = true
    · rw [if_pos c] at h
      cases h
      obtain ⟨e, lt⟩ := vals_nat c.2
      refine ⟨?_, by rw [List.length_map]; exact c.1, lt⟩
      unfold encR
      rw [← e]
    · rw [if_neg c] at h
      cases h
  | _ => cases h
def spPlace (K : PySem.W.Frag) (enc : Option (Option Nat) → PyData) : Sp := fun vs H Q _ => ∃ (v u z : V) (n m : Nat) (s t : Net) (d : PyData), vs = [v, u, z] ∧ Dp K H v (encNet s) ∧ Dp K H u (encNet t) ∧ Dr K H z d ∧ Form n s ∧ Form m t ∧ n ≤ 1000 ∧ RetA K (.d (enc (place s t n m d))) H Q
section
variable {P : Program} {w : World} {K : PySem.W.Frag} {mg : Str → Option Value} {base : Heap}
theorem place_bad {s t : Net} {n : Nat} {l : List Nat} {d : PyData} {i : Nat} (h : valN d n = some l) (hi : i < n) (h0 : ∀ f < i, badAt s t l f = false) (hb : badAt s t l i = true) : place s t n n d = some (some i) := by
  unfold place
  rw [if_neg (fun z => z rfl), h]
  show some (firstBad s t n l) = _
  unfold firstBad
  rw [find_range hi h0 hb]
theorem place_ok {s t : Net} {n : Nat} {l : List Nat} {d : PyData} (h : valN d n = some l) (h0 : ∀ f < n, badAt s t l f = false) : place s t n n d = some none := by
  unfold place
  rw [if_neg (fun z => z rfl), h]
  show some (firstBad s t n l) = _
  unfold firstBad
  rw [find_none_of fun x hx => h0 x (List.mem_range.mp hx)]
theorem badAt_dup {s t : Net} {l : List Nat} {i : Nat} (h : l.getD i 0 ∈ l.take i) : badAt s t l i = true := by
  unfold badAt
  rw [decide_eq_true h]
  rfl
theorem badAt_eq {s t : Net} {l : List Nat} {i : Nat} (h : l.getD i 0 ∉ l.take i) : badAt s t l i = ([0, 1, 2] : List Nat).any fun c => !decide (ap t c (l.getD i 0) = l.getD (ap s c i) 0) := by
  unfold badAt
  rw [decide_eq_false h]
  rfl
theorem sc_likeness_fault : FnScope ["net", "other_net", "value", "many", "flag", "met", "change", "other_change"] ["net", "other_net", "value"] (defScope (top 33)) := ⟨rfl, rfl, rfl, by decide +kernel, rfl, by decide +kernel, by decide +kernel⟩
theorem kn_likeness_fault (T : Txt K mg) (G_is_tuple_of : Kn P w K mg base CX0 1 "is_tuple_of" ["value", "many"] (spTupOf K)) (G_is_within : Kn P w K mg base CX0 2 "is_within" ["value", "low", "high"] (spWithin K)) :
    Kn P w K mg base CX0 3 "likeness_fault" ["net", "other_net", "value"] (spPlace K encLF) := by
  obtain ⟨f, fd, F, hm⟩ := (T.df 23 (p := (33, "likeness_fault")) rfl)
  refine kn_ok F hm sc_likeness_fault (fun _ _ _ _ _ _ us hl => match us, hl with | [_, _, _], _ => rfl) (fun vs H Q E h => ?_) (fun cdv A outer s H vs Q E hr h => ?_)
  · obtain ⟨v, u, z, n, m, s, t, d, rfl, _⟩ := h
    rfl
  · obtain ⟨v, u, z, n, m, s, t, d, rfl, hN, hM, hd, F, G, hn, q⟩ := h
    refine ⟨_, (pss_cons (ps_set (i := 3) sc_likeness_fault.nd rfl (Or.inr rfl) (pe_callB (cK_len (K := K) (by rfl)) (by rfl) T.len bt_len (pa_cons (pe_ix (ixK_tup (K := K) (by rfl)) (pv 0) pe_int (fun _ _ => rfl)) pa_nil)))
  (pss_cons (ps_if (PW.pt (pw_or (pt_cmpR op_ne (pe_callB (cK_len (K := K) (by rfl)) (by rfl) T.len bt_len (pa_cons (pe_ix (ixK_tup (K := K) (by rfl)) (pv 1) pe_int (fun _ _ => rfl)) pa_nil)) (pv 3) (nomark _)) (pw_or1 (pt_not (pt_val (pe_kn G_is_tuple_of (hr.mono (by decide)) (by rfl) pass0 (pa_cons (pv 2) (pa_cons (pv 3) pa_nil))))))))
  (pss_one (ps_ret (pe_tup (pa_cons pe_non pa_nil))))
  pss_nil)
  (pss_cons (ps_if (pt_not (pt_val (pe_callB (cK_all (K := K) (by rfl) rfl) (by rfl) T.all bt_all (pa_cons (pe_lc (own := [("flag", 4)]) (g := (gName 4)) (by rfl) sc_likeness_fault.nd (piK_tup (K := K) (by rfl) (pv 2)) (blkOk_by (by kernel_rfl)) (fun _ _ _ _ _ => (pg_name (i := 4) sc_likeness_fault.nd rfl (by first | exact Or.inl rfl | exact Or.inr rfl))) (fun _ _ _ _ _ => pts_nil) (fun _ _ _ _ _ => (pe_kn G_is_within (hr.mono (by decide)) (by rfl) pass0 (pa_cons (pv 4) (pa_cons pe_int (pa_cons (pe_op op_sub (pv 3) pe_int) pa_nil)))))) pa_nil))))
  (pss_one (ps_ret (pe_tup (pa_cons pe_non pa_nil))))
  pss_nil)
  (pss_cons (ps_set (i := 5) sc_likeness_fault.nd rfl (Or.inl rfl) pe_dnewK)
  (pss_cons (ps_for PassesOwn.never rfl (pi_range1 rfl T.range (pa_cons (pv 3) pa_nil)) (pg_name (i := 4) sc_likeness_fault.nd rfl (by first | exact Or.inl rfl | exact Or.inr rfl))
  (pss_cons (ps_if (pt_cmp (pc_din (hu_of hr) (pe_ix (ixK_tup (K := K) (by rfl)) (pv 2) (pv 4) (fun _ _ => rfl)) (pv 5)))
  (pss_one (ps_ret (pe_tup (pa_cons (pv 4) pa_nil))))
  pss_nil)
  (pss_cons (ps_dput (hu_of hr) (pv 5) (pe_ix (ixK_tup (K := K) (by rfl)) (pv 2) (pv 4) (fun _ _ => rfl)) pe_bl rfl)
  (pss_one (ps_for PassesOwn.never rfl (piK_zip (K := K) (by rfl) (by rfl) T.zip (pa_cons (pv 0) (pa_cons (pv 1) pa_nil))) (pg_tup rfl (pgs_cons (pg_name (i := 6) sc_likeness_fault.nd rfl (by first | exact Or.inl rfl | exact Or.inr rfl)) (pgs_cons (pg_name (i := 7) sc_likeness_fault.nd rfl (by first | exact Or.inl rfl | exact Or.inr rfl)) pgs_nil)))
  (pss_one (ps_if (pt_cmpR (opK_neD (K := K) (by rfl) hr.units) (pe_ix (ixK_tup (K := K) (by rfl)) (pv 7) (pe_ix (ixK_tup (K := K) (by rfl)) (pv 2) (pv 4) (fun _ _ => rfl)) (fun _ _ => rfl)) (pe_ix (ixK_tup (K := K) (by rfl)) (pv 2) (pe_ix (ixK_tup (K := K) (by rfl)) (pv 6) (pv 4) (fun _ _ => rfl)) (fun _ _ => rfl)) (nomark _))
  (pss_one (ps_ret (pe_tup (pa_cons (pv 4) pa_nil))))
  pss_nil)))))))
  (pss_one (ps_ret (pe_tup pa_nil)))))))), ?_⟩
    refine asgI (n := n) (g_len0 F (g_dv rfl hN)) fun H1 e1 => ?_
    refine q_when (et_or (et_of (K := K) (g_op (g_len0 G (g_dv rfl (hM.mono e1))) (g_vi (n := (n : Int)) rfl) rg_neI)) fun _ => et_not (et_of (K := K) (g_call (gs_cons (g_vv rfl) (gs_cons (g_vi (n := (n : Int)) rfl) gs_nil)) (spg_tupOf (dr_mono hd e1))))) (fun hb H2 e2 => ?_) (fun hb H2 e2 => ?_)
    · have hp : place s t n m d = none := by
        unfold place
        by_cases hmn : m ≠ n
        · rw [if_pos hmn]
        · have hmn : m = n := by omega
          subst hmn
          rw [if_neg (fun z => z rfl)]
          have h2 : tupD d m = false := by simpa using hb
          have : valN d m = none := by
            unfold valN
            cases d with
            | tuple ds =>
              have h3 : ¬ ds.length = m := fun z => by
                have h2 : decide ((ds.length : Int) = (m : Int)) = false := h2
                have := of_decide_eq_false h2
                omega
              exact if_neg (fun z => h3 z.1)
            | _ => rfl
          rw [this]
          rfl
      rw [hp] at q
      exact retA (K := K) (a := .d (encLF none)) (g_tup (ds := [.none]) (gs_cons g_non gs_nil) (by show 1 ≤ 100000; omega)) (fun v H5 e5 hv => q v H5 ((e1.trans e2).trans e5) hv) rfl
    have hmn : m = n := by
      have h : (!decide ((m : Int) = n)) = false := by
        cases hh : (!decide ((m : Int) = n)) with
        | false => rfl
        | true => rw [hh] at hb; cases hb
      have : (m : Int) = n := by simpa using h
      omega
    subst hmn
    obtain ⟨ds, rfl, hlen⟩ : ∃ ds, d = .tuple ds ∧ ds.length = m := by
      have h2 : tupD d m = true := by simpa using hb
      cases d with
      | tuple ds =>
        have h2 : decide ((ds.length : Int) = (m : Int)) = true := h2
        have := of_decide_eq_true h2
        exact ⟨ds, rfl, by omega⟩
      | _ => cases h2
    have e12 := e1.trans e2
    refine q_when (et_not (et_of (K := K) (g_all (bs := ds.map fun d => withinD d 0 ((m : Int) - 1)) (g_is (g_lcTr (fun _ => true) (fun i => .bool (withinD (ds.getD i .none) 0 ((m : Int) - 1))) (ev_var rfl) (dr_mono hd e12) (by omega) (fun _ => rfl) (fun _ => rfl) (fun i x d H1 e1 hd hx => et_yes)
      (fun k y d' H5 e5 hd' hy _ => ?_)) ?_)))) (fun hb2 H3 e3 => ?_) (fun hb2 H3 e3 => ?_)
    · have hg : ds.getD k .none = d' := by rw [List.getD_eq_getElem?_getD, hd']; rfl
      rw [hg]
      exact g_call (gs_cons (g_vv rfl) (gs_cons g_int (gs_cons (g_op (g_vi (n := (m : Int)) rfl) g_int rg_sub) gs_nil))) (spg_within hy)
    · rw [List.map_map]
      refine congrArg (fun l => Nk.A.d (.list l)) (givenD_all fun k d' hd' => ?_)
      show PyData.bool (withinD (ds.getD k .none) 0 ((m : Int) - 1)) = _
      rw [List.getD_eq_getElem?_getD, hd']
      rfl
    · have hp : place s t m m (.tuple ds) = none := by
        unfold place
        rw [if_neg (fun z => z rfl)]
        have : valN (.tuple ds) m = none := by
          refine if_neg fun z => ?_
          rw [List.all_map] at hb2
          have h2 := z.2
          rw [show (ds.all (id ∘ fun d => withinD d 0 ((m : Int) - 1))) = true from h2] at hb2
          cases hb2
        rw [this]
        rfl
      rw [hp] at q
      exact retA (K := K) (a := .d (encLF none)) (g_tup (ds := [.none]) (gs_cons g_non gs_nil) (by show 1 ≤ 100000; omega)) (fun v H5 e5 hv => q v H5 ((e12.trans e3).trans e5) hv) rfl
    have hall : (ds.all fun d => withinD d 0 ((m : Int) - 1)) = true := by
      rw [List.all_map] at hb2
      simpa using hb2
    obtain ⟨l, hval⟩ : ∃ l, valN (.tuple ds) m = some l := ⟨_, if_pos ⟨hlen, hall⟩⟩
    obtain ⟨hdl, hll, hlt⟩ := valN_some hval
    rw [hdl] at hd
    have hz : Dp K H z (encR l) := dr_row hd
    refine asgD0 fun d0 dn => ?_
    have e13 := e12.trans e3
    have dH : H d0 = none := fresh_back e13 dn
    refine q_forR1 (n := m) (ea_cons (ev_var rfl) ea_nil) (by omega)
      (fun i σ H' => ∃ (y4 y6 y7 : Option V), σ = [some v, some u, some z, some (nv m), y4, some (.ref d0), y6, y7] ∧ Ex H H' ∧ H' d0 = some (.dK (kd (l.take i) (.bl true))) ∧ ∀ f < i, badAt s t l f = false)
      (fun H4 e4 => ⟨none, none, none, rfl, (Ex.mut e13 dH).trans e4, e4 _ _ upd_same, fun f hf => by omega⟩) (fun i σ' H' hi hP => ?_) (fun σ' H' hP => ?_)
    · obtain ⟨y4, y6, y7, rfl, e, hdk, hgood⟩ := hP
      have him : i < m := by omega
      obtain ⟨x, hx⟩ : ∃ x, l[i]? = some x := ⟨_, List.getElem?_eq_getElem (by omega)⟩
      have hgx := getD_of hx
      have hxm : x < m := hlt x (List.mem_of_getElem? hx)
      have hval0 : ∀ {H4 : Hp} {y6 y7 : Option V}, Ex H' H4 → Ev (tOp (rIxT K) (tVar 2) (tVar 4)) [some v, some u, some z, some (nv m), some (nv i), some (.ref d0), y6, y7] H4 (.int (x : Int)) := fun {H4 y6 y7} e4 =>
        g_ev (g_toV (g_ixT (K := K) (i := i) (d := encN x) (g_dv rfl (hz.mono (e.trans e4))) (g_vn rfl) (encR_get hx)))
      refine q_when (et_in hdk (hval0 (Ex.refl H')) (ev_var rfl)) (fun hb H4 e4 => ?_) (fun hb H4 e4 => ?_)
      · have hmem : x ∈ l.take i := by
          by_cases c : x ∈ l.take i
          · exact c
          · rw [valV_kd, if_neg c] at hb
            cases hb
        have hp := place_bad (s := s) (t := t) hval him hgood (badAt_dup (by rw [hgx]; exact hmem))
        rw [hp] at q
        exact retA (K := K) (a := .d (encLF (some (some i)))) (g_tup (ds := [encN i]) (gs_cons (g_vn rfl) gs_nil) (by show 1 ≤ 100000; omega)) (fun v H5 e5 hv => q v H5 ((e.trans e4).trans e5) hv) rfl
      · have hnm : x ∉ l.take i := by
          intro c
          rw [valV_kd, if_pos c] at hb
          cases hb
        have hbe := badAt_eq (s := s) (t := t) (l := l) (i := i) (by rw [hgx]; exact hnm)
        rw [hgx] at hbe
        refine putD (e4 _ _ hdk) ev_c (ev_var rfl) (hval0 e4) (by rw [kd_len, List.length_take]; omega) fun H5 e5 => ?_
        have et : putK (kd (l.take i) (.bl true)) (Sum.inl (x : Int)) (.bl true) = kd (l.take (i + 1)) (.bl true) := by
          rw [putK_kd hnm, List.take_add_one, hx]
          rfl
        rw [et]
        have eh5 : Ex H (upd H5 d0 (.dK (kd (l.take (i + 1)) (.bl true)))) := Ex.mut ((e.trans e4).trans e5) dH
        obtain ⟨a, xs, rfl, hT, hD⟩ := dp_ofNet hN
        obtain ⟨b, ys, rfl, hT2, hD2⟩ := dp_ofNet hM
        have hl3 : xs.length = 3 := by rw [hD.length, List.length_map, F.three]
        refine s_zipT (K := K) (a := a) (b := b) (xs := xs) (ys := ys) (ea_cons (ev_var rfl) (ea_cons (ev_var rfl) ea_nil)) (ex_t eh5 hT) (ex_t eh5 hT2) (by rw [hl3, hD2.length, List.length_map, G.three])
          (fun k σ2 H6 => ∃ (y6 y7 : Option V), σ2 = [some (.ref a), some (.ref b), some z, some (nv m), some (nv i), some (.ref d0), y6, y7] ∧ Ex H H6 ∧ H6 d0 = some (.dK (kd (l.take (i + 1)) (.bl true))) ∧ ∀ c < k, ap t c x = l.getD (ap s c i) 0)
          (fun H6 e6 => ⟨y6, y7, rfl, eh5.trans e6, e6 _ _ upd_same, fun c hc => by omega⟩) (fun k σ2 H6 hP => let ⟨_, _, _, e, _⟩ := hP; ⟨ex_t e hT, ex_t e hT2⟩) (fun k c1 c2 σ2 H6 H7 h1 h2 hP e7 => ?_) (fun σ2 H6 hP => ?_)
        · obtain ⟨y6, y7, rfl, e, hdk, hc⟩ := hP
          have hk : k < 3 := by have := (List.getElem?_eq_some_iff.mp h1).1; omega
          obtain ⟨d1, hd1, hp1⟩ := hD.getv h1
          obtain ⟨ch1, hch1, rfl⟩ := encNet_of hd1
          obtain ⟨d2, hd2, hp2⟩ := hD2.getv h2
          obtain ⟨ch2, hch2, rfl⟩ := encNet_of hd2
          obtain ⟨q1, hq1, hq1', hq1n⟩ := F.row (List.mem_of_getElem? hch1) him
          obtain ⟨q2, hq2, hq2', hq2n⟩ := G.row (List.mem_of_getElem? hch2) hxm
          have ea1 : ap s k i = q1 := by unfold ap; rw [List.getD_eq_getElem?_getD (l := s), hch1]; exact hq1'
          have ea2 : ap t k x = q2 := by unfold ap; rw [List.getD_eq_getElem?_getD (l := t), hch2]; exact hq2'
          obtain ⟨y, hy⟩ : ∃ y, l[q1]? = some y := ⟨_, List.getElem?_eq_getElem (by omega)⟩
          have ehz := e.trans e7
          refine s_when (et_of (K := K) (g_op (a := .d (.int (q2 : Int))) (b := .d (.int (y : Int))) (g_ixT (i := x) (d := encN q2) (g_dv (d := encR ch2) rfl (hp2.mono ehz)) (g_ixT (i := i) (d := encN x) (g_dv rfl (hz.mono ehz)) (g_vn rfl) (encR_get hx)) (encR_get hq2))
            (g_ixT (i := q1) (d := encN y) (g_dv rfl (hz.mono ehz)) (g_ixT (i := i) (d := encN q1) (g_dv (d := encR ch1) rfl (hp1.mono ehz)) (g_vn rfl) (encR_get hq1)) (encR_get hy)) rg_neD)) (fun hb H8 e8 => ?_) (fun hb H8 e8 => ?_)
          · have hne : q2 ≠ y := fun z => by rw [z] at hb; simp at hb
            have hbad : badAt s t l i = true := by
              rw [hbe, List.any_eq_true]
              refine ⟨k, ?_, ?_⟩
              · have : k = 0 ∨ k = 1 ∨ k = 2 := by omega
                rcases this with rfl | rfl | rfl <;> simp
              · rw [ea1, ea2, getD_of hy]
                simpa using hne
            have hp := place_bad (s := s) (t := t) hval him hgood hbad
            rw [hp] at q
            exact retA (K := K) (a := .d (encLF (some (some i)))) (g_tup (ds := [encN i]) (gs_cons (g_vn rfl) gs_nil) (by show 1 ≤ 100000; omega)) (fun v H9 e9 hv => q v H9 ((ehz.trans e8).trans e9) hv) rfl
          · have heq : q2 = y := by
              have : (q2 : Int) = y := by simpa using hb
              omega
            refine ⟨_, _, rfl, ehz.trans e8, e8 _ _ (e7 _ _ hdk), fun c hck => ?_⟩
            rcases Nat.lt_or_ge c k with h | h
            · exact hc c h
            · have : c = k := by omega
              subst this
              rw [ea1, ea2, getD_of hy]
              exact heq
        · obtain ⟨y6, y7, rfl, e, hdk, hc⟩ := hP
          rw [hl3] at hc
          refine ⟨_, _, _, rfl, e, hdk, fun f hf => ?_⟩
          rcases Nat.lt_or_ge f i with h | h
          · exact hgood f h
          · have : f = i := by omega
            subst this
            rw [hbe, List.any_eq_false]
            intro c hcm
            have : c < 3 := by
              have : c = 0 ∨ c = 1 ∨ c = 2 := by simpa using hcm
              omega
            simpa using hc c this
    · obtain ⟨y4, y6, y7, rfl, e, hdk, hgood⟩ := hP
      rw [Int.toNat_natCast] at hgood
      have hp := place_ok (s := s) (t := t) hval hgood
      rw [hp] at q
      exact retA (K := K) (a := .d (encLF (some none))) (g_tup (ds := []) gs_nil (by show 0 ≤ 100000; omega)) (fun v H9 e9 hv => q v H9 (e.trans e9) hv) rfl
end
end Nk
/-! ## W10: _law_place, is_likeness, need_likeness -/
namespace Nk
open PySem PySem.Spec PyProof.Rows L2 Evl

section
variable {K : PySem.W.Frag} {σ : L2.St} {H : Hp} {ta tb : TE}
theorem eqv_nil {n : Nat} {f : Nat → Bool} {D : Nat → PyData} : PyData.eqv (.list (givenD n f D)) (.list []) = decide (∀ i < n, f i = false) := by
  by_cases h : ∀ i < n, f i = false
  · have : givenD n f D = [] := by
      unfold givenD
      rw [List.map_eq_nil_iff, List.filter_eq_nil_iff]
      intro i hi
      rw [h i (List.mem_range.mp hi)]
      exact fun z => by cases z
    rw [this, decide_eq_true h]
    rfl
  · rw [decide_eq_false h]
    have : givenD n f D ≠ [] := fun z => h fun i hi => by
      unfold givenD at z
      rw [List.map_eq_nil_iff, List.filter_eq_nil_iff] at z
      simpa using z i (List.mem_range.mpr hi)
    cases hg : givenD n f D with
    | nil => exact absurd hg this
    | cons a r => simp [PyData.eqv, PyData.eqvAll]
theorem rg_neNil {ds : List PyData} (hs : SeqAt.shaped (.list ds) = true) : RG K (rNeD K) H (.d (.list ds)) (.d (.list [])) (.d (.bool (!PyData.eqv (.list ds) (.list [])))) := fun x y H1 e hx hy Q q => ⟨_, _, hx, hy, hs, by decide +kernel, q _ H1 (Ex.refl H1) (.bl _)⟩
theorem g_nil : EvG K (tLst tNil) σ H (.d (.list [])) := g_lst (ds := []) gs_nil (by show 0 ≤ 100000; omega)
end
theorem not_falseB {b : Bool} (h : (!b) = false) : b = true := by
  cases b with
  | true => rfl
  | false => cases h
theorem canAll : ∀ {l : List PyData}, (∀ d ∈ l, d.canLay0 = true) → PyData.canLayAll0 l = true
  | [], _ => by simp [PyData.canLayAll0]
  | d :: l, h => by
    rw [PyData.canLayAll0, h d List.mem_cons_self, canAll fun x hx => h x (List.mem_cons_of_mem _ hx)]
    rfl
theorem can_R (l : List Nat) : (encR l).canLay0 = true := by
  unfold encR
  rw [PyData.canLay0]
  exact canAll fun d hd => by
    obtain ⟨n, _, rfl⟩ := List.mem_map.mp hd
    unfold encN
    rw [PyData.canLay0]
theorem can_Net (s : Net) : (encNet s).canLay0 = true := by
  unfold encNet
  rw [PyData.canLay0]
  exact canAll fun d hd => by
    obtain ⟨n, _, rfl⟩ := List.mem_map.mp hd
    exact can_R n
theorem shaped_of {d : PyData} (h : d.canLay0 = true) (k : d.depth ≤ 64) : SeqAt.shaped d = true := by
  unfold SeqAt.shaped
  rw [h, decide_eq_true k]
  rfl
theorem shaped_ones {n : Nat} {f : Nat → Bool} : SeqAt.shaped (.list (givenD n f fun _ => .int 1)) = true := by
  have h1 : ∀ d ∈ givenD n f fun _ => .int 1, d = .int 1 := fun d hd => by
    obtain ⟨i, _, rfl⟩ := List.mem_map.mp hd
    rfl
  refine shaped_of ?_ (Nat.le_trans (depth_lst (k := 1) fun d hd => by rw [h1 d hd]; simp [PyData.depth]) (by decide))
  rw [PyData.canLay0]
  exact canAll fun d hd => by
    rw [h1 d hd, PyData.canLay0]
section
variable {P : Program} {w : World} {K : PySem.W.Frag} {mg : Str → Option Value} {base : Heap}
theorem sc_law_place : FnScope ["_law_net_here", "_law_other", "_law_value", "_law_many", "_law_n", "_law_flag", "_law_change"] ["_law_net_here", "_law_other", "_law_value"] (defScope (top 61)) := ⟨rfl, rfl, rfl, by decide +kernel, rfl, by decide +kernel, by decide +kernel⟩
theorem kn_law_place (T : Txt K mg) (G_law_is_int : Kn P w K mg base CX0 1 "_law_is_int" ["_law_thing", "_law_low", "_law_high"] (spWithin K)) :
    Kn P w K mg base CX0 2 "_law_place" ["_law_net_here", "_law_other", "_law_value"] (spPlace K encPl) := by
  obtain ⟨f, fd, F, hm⟩ := (T.df 50 (p := (61, "_law_place")) rfl)
  refine kn_ok F hm sc_law_place (fun _ _ _ _ _ _ us hl => match us, hl with | [_, _, _], _ => rfl) (fun vs H Q E h => ?_) (fun cdv A outer s H vs Q E hr h => ?_)
  · obtain ⟨v, u, z, n, m, s, t, d, rfl, _⟩ := h
    rfl
  · obtain ⟨v, u, z, n, m, s, t, d, rfl, hN, hM, hd, F, G, hn, q⟩ := h
    refine ⟨_, (pss_cons (ps_set (i := 3) sc_law_place.nd rfl (Or.inr rfl) (pe_callB (cK_len (K := K) (by rfl)) (by rfl) T.len bt_len (pa_cons (pe_ix (ixK_tup (K := K) (by rfl)) (pv 0) pe_int (fun _ _ => rfl)) pa_nil)))
  (pss_cons (ps_if (PW.pt (pw_or (pt_cmpR op_ne (pe_callB (cK_len (K := K) (by rfl)) (by rfl) T.len bt_len (pa_cons (pe_ix (ixK_tup (K := K) (by rfl)) (pv 1) pe_int (fun _ _ => rfl)) pa_nil)) (pv 3) (nomark _)) (pw_or (pt_not (pt_val (pe_callB (cK_isi (K := K) (by rfl)) (by rfl) T.isinstance bt_isinstance (pa_cons (pv 2) (pa_cons (pe_bltn (v := .ty "tuple") (by rfl) T.tuple (by decide +kernel) rfl) pa_nil))))) (pw_or1 (pt_cmpR op_ne (pe_callB (cK_len (K := K) (by rfl)) (by rfl) T.len bt_len (pa_cons (pv 2) pa_nil)) (pv 3) (nomark _))))))
  (pss_one (ps_ret pe_non))
  pss_nil)
  (pss_cons (ps_if (pt_cmpR (opK_neD (K := K) (by rfl) hr.units) (pe_lc (own := [("_law_flag", 5)]) (g := (gName 5)) (by rfl) sc_law_place.nd (piK_tup (K := K) (by rfl) (pv 2)) (blkOk_by (by kernel_rfl)) (fun _ _ _ _ _ => (pg_name (i := 5) sc_law_place.nd rfl (by first | exact Or.inl rfl | exact Or.inr rfl))) (fun _ _ _ _ _ => (pts_one (pt_not (pt_val (pe_kn G_law_is_int (hr.mono (by decide)) (by rfl) pass0 (pa_cons (pv 5) (pa_cons pe_int (pa_cons (pe_op op_sub (pv 3) pe_int) pa_nil)))))))) (fun _ _ _ _ _ => pe_int)) (pe_lst pa_nil) (nomark _))
  (pss_one (ps_ret pe_non))
  pss_nil)
  (pss_cons (ps_for PassesOwn.never rfl (pi_range1 rfl T.range (pa_cons (pv 3) pa_nil)) (pg_name (i := 4) sc_law_place.nd rfl (by first | exact Or.inl rfl | exact Or.inr rfl))
  (pss_cons (ps_if (pt_cmpR (opK_in (K := K) (by rfl)) (pe_ix (ixK_tup (K := K) (by rfl)) (pv 2) (pv 4) (fun _ _ => rfl)) (pe_slice (slK_tup (K := K) (by rfl)) (pv 2) po_none (po_some (pv 4))) (by rfl))
  (pss_one (ps_ret (pv 4)))
  pss_nil)
  (pss_one (ps_if (pt_cmpR (opK_neD (K := K) (by rfl) hr.units) (pe_lc (own := [("_law_change", 6)]) (g := (gName 6)) (by rfl) sc_law_place.nd (pi_range1 rfl T.range (pa_cons pe_int pa_nil)) (blkOk_by (by kernel_rfl)) (fun _ _ _ _ _ => (pg_name (i := 6) sc_law_place.nd rfl (by first | exact Or.inl rfl | exact Or.inr rfl))) (fun _ _ _ _ _ => (pts_one (pt_cmpR (opK_neD (K := K) (by rfl) hr.units) (pe_ix (ixK_tup (K := K) (by rfl)) (pe_ix (ixK_tup (K := K) (by rfl)) (pv 1) (pv 6) (fun _ _ => rfl)) (pe_ix (ixK_tup (K := K) (by rfl)) (pv 2) (pv 4) (fun _ _ => rfl)) (fun _ _ => rfl)) (pe_ix (ixK_tup (K := K) (by rfl)) (pv 2) (pe_ix (ixK_tup (K := K) (by rfl)) (pe_ix (ixK_tup (K := K) (by rfl)) (pv 0) (pv 6) (fun _ _ => rfl)) (pv 4) (fun _ _ => rfl)) (fun _ _ => rfl)) (nomark _)))) (fun _ _ _ _ _ => pe_int)) (pe_lst pa_nil) (nomark _))
  (pss_one (ps_ret (pv 4)))
  pss_nil))))
  (pss_one (ps_ret (pe_un un_neg pe_int))))))), ?_⟩
    refine asgI (n := n) (g_len0 F (g_dv rfl hN)) fun H1 e1 => ?_
    have hlen2 : ∀ {H2 : Hp}, Ex H H2 → isiD d "tuple" = true → EvG K (tCB (fun xs H Q => ∃ p ys, xs = [.ref p] ∧ (SqL K H p ys ∨ SqT K H p ys) ∧ Q (.int ys.length) H) (tCons (tVar 2) tNil)) [some v, some u, some z, some (nv n), none, none, none] H2 (.d (.int ((match d with | .tuple ds => (ds.length : Int) | _ => 0)))) := fun {H2} e2 h => by
      cases d with
      | tuple ds =>
        obtain ⟨a, xs, rfl, h1, h2⟩ := dr_tup (dr_mono hd e2)
        exact g_toD (g_of_ev (by
          show Ev _ _ _ (.int (ds.length : Int))
          rw [← drAll_len h2]
          exact ev_lenT (ev_var rfl) h1))
      | _ => simp [isiD, tyName] at h
    refine q_when (et_or (et_of (K := K) (g_op (g_len0 G (g_dv rfl (hM.mono e1))) (g_vi (n := (n : Int)) rfl) rg_neI)) fun _ => et_or (et_not (et_of (K := K) (g_isi (.inr (.inr rfl)) (g_vv rfl) (dr_mono hd e1)))) fun hi => et_of (K := K) (g_op (hlen2 e1 (by simpa using hi)) (g_vi (n := (n : Int)) rfl) rg_neI)) (fun hb H2 e2 => ?_) (fun hb H2 e2 => ?_)
    · have hp : place s t n m d = none := by
        unfold place
        by_cases hmn : m ≠ n
        · rw [if_pos hmn]
        · have hmn : m = n := by omega
          subst hmn
          rw [if_neg (fun z => z rfl)]
          have : valN d m = none := by
            unfold valN
            cases d with
            | tuple ds =>
              refine if_neg fun z => ?_
              rw [show isiD (.tuple ds) "tuple" = true from rfl] at hb
              simp [z.1] at hb
            | _ => rfl
          rw [this]
          rfl
      rw [hp] at q
      exact retA (K := K) (a := .d .none) g_non (fun v H5 e5 hv => q v H5 ((e1.trans e2).trans e5) hv) rfl
    rw [Bool.or_eq_false_iff, Bool.or_eq_false_iff] at hb
    obtain ⟨hb1, hb2, hb3⟩ := hb
    have hmn : m = n := by
      have : (m : Int) = n := by simpa using hb1
      omega
    subst hmn
    obtain ⟨ds, rfl, hlen⟩ : ∃ ds, d = .tuple ds ∧ ds.length = m := by
      have h2 : isiD d "tuple" = true := by simpa using hb2
      cases d with
      | tuple ds =>
        have : (ds.length : Int) = m := by simpa using hb3
        exact ⟨ds, rfl, by omega⟩
      | _ => simp [isiD, tyName] at h2
    have e12 := e1.trans e2
    refine q_when (et_of (K := K) (g_op (g_lcTr (fun i => !withinD (ds.getD i .none) 0 ((m : Int) - 1)) (fun _ => .int 1) (ev_var rfl) (dr_mono hd e12) (by omega) (fun _ => rfl) (fun _ => rfl) (fun k y d' H5 e5 hd' hy => ?_) (fun k y d' H5 e5 hd' hy _ => g_int)) g_nil (rg_neNil shaped_ones))) (fun hb2 H3 e3 => ?_) (fun hb2 H3 e3 => ?_)
    · have hg : ds.getD k .none = d' := by rw [List.getD_eq_getElem?_getD, hd']; rfl
      rw [hg]
      exact et_not (et_of (K := K) (g_call (gs_cons (g_vv rfl) (gs_cons g_int (gs_cons (g_op (g_vi (n := (m : Int)) rfl) g_int rg_sub) gs_nil))) (spg_within hy)))
    · rw [eqv_nil] at hb2
      have hp : place s t m m (.tuple ds) = none := by
        unfold place
        rw [if_neg (fun z => z rfl)]
        have : valN (.tuple ds) m = none := by
          refine if_neg fun z => ?_
          have hall := z.2
          rw [List.all_eq_true] at hall
          refine absurd (show (∀ i < ds.length, (!withinD (ds.getD i .none) 0 ((m : Int) - 1)) = false) from fun i hi => ?_) (of_decide_eq_false (by simpa using hb2))
          rw [List.getD_eq_getElem?_getD, List.getElem?_eq_getElem hi]
          show (!withinD ds[i] 0 ((m : Int) - 1)) = false
          rw [hall _ (List.getElem_mem hi)]
          rfl
        rw [this]
        rfl
      rw [hp] at q
      exact retA (K := K) (a := .d .none) g_non (fun v H5 e5 hv => q v H5 ((e12.trans e3).trans e5) hv) rfl
    rw [eqv_nil] at hb2
    have hall : (ds.all fun d => withinD d 0 ((m : Int) - 1)) = true := by
      rw [List.all_eq_true]
      intro d' hd'
      obtain ⟨i, hi, rfl⟩ := List.mem_iff_getElem.mp hd'
      have hb2' : decide (∀ i < ds.length, (!withinD (ds.getD i .none) 0 ((m : Int) - 1)) = false) = true := by
        cases hh : decide (∀ i < ds.length, (!withinD (ds.getD i .none) 0 ((m : Int) - 1)) = false) with
        | true => rfl
        | false => rw [hh] at hb2; cases hb2
      have := of_decide_eq_true hb2' i hi
      rw [List.getD_eq_getElem?_getD, List.getElem?_eq_getElem hi] at this
      simpa using this
    obtain ⟨l, hval⟩ : ∃ l, valN (.tuple ds) m = some l := ⟨_, if_pos ⟨hlen, hall⟩⟩
    obtain ⟨hdl, hll, hlt⟩ := valN_some hval
    rw [hdl] at hd
    have hz : Dp K H z (encR l) := dr_row hd
    have e13 := e12.trans e3
    refine q_forR1 (n := m) (ea_cons (ev_var rfl) ea_nil) (by omega)
      (fun i σ H' => ∃ (y4 : Option V), σ = [some v, some u, some z, some (nv m), y4, none, none] ∧ Ex H H' ∧ ∀ f < i, badAt s t l f = false)
      (fun H4 e4 => ⟨none, rfl, e13.trans e4, fun f hf => by omega⟩) (fun i σ' H' hi hP => ?_) (fun σ' H' hP => ?_)
    · obtain ⟨y4, rfl, e, hgood⟩ := hP
      have him : i < m := by omega
      obtain ⟨x, hx⟩ : ∃ x, l[i]? = some x := ⟨_, List.getElem?_eq_getElem (by omega)⟩
      have hgx := getD_of hx
      have hxm : x < m := hlt x (List.mem_of_getElem? hx)
      have hval0 : ∀ {H4 : Hp} {y6 : Option V}, Ex H' H4 → EvG K (tOp (rIxT K) (tVar 2) (tVar 4)) [some v, some u, some z, some (nv m), some (nv i), none, y6] H4 (.d (encN x)) := fun {H4 y6} e4 =>
        g_ixT (K := K) (i := i) (d := encN x) (g_dv rfl (hz.mono (e.trans e4))) (g_vn rfl) (encR_get hx)
      refine q_when (et_of (K := K) (g_op (a := .d (encN x)) (b := .d (encR (l.take i))) (hval0 (Ex.refl H')) (g_is (g_slTo (hi := i) (ds := l.map encN) (g_dv rfl (hz.mono e)) (g_vn rfl)) (by unfold encR; rw [List.map_take])) rg_inR)) (fun hb H4 e4 => ?_) (fun hb H4 e4 => ?_)
      · have hmem := of_decide_eq_true hb
        have hp := place_bad (s := s) (t := t) hval him hgood (badAt_dup (by rw [hgx]; exact hmem))
        rw [hp] at q
        exact retA (K := K) (a := .d (encN i)) (g_vn rfl) (fun v H5 e5 hv => q v H5 ((e.trans e4).trans e5) hv) rfl
      · have hnm := of_decide_eq_false hb
        have hbe := badAt_eq (s := s) (t := t) (l := l) (i := i) (by rw [hgx]; exact hnm)
        rw [hgx] at hbe
        have e4' := e.trans e4
        refine s_when (et_of (K := K) (g_op (g_lcR1 (n := 3) (fun c => !decide (ap t c x = l.getD (ap s c i) 0)) (fun _ => .int 1) (gs_cons g_int gs_nil) (by omega) (fun _ => rfl) (fun _ => rfl) (fun k H5 e5 hk => ?_) (fun k H5 e5 hk _ => g_int)) g_nil (rg_neNil shaped_ones))) (fun hb2 H5 e5 => ?_) (fun hb2 H5 e5 => ?_)
        · obtain ⟨ch1, hch1, hg1, _, hm1⟩ := F.get hk
          obtain ⟨ch2, hch2, hg2, _, hm2⟩ := G.get hk
          obtain ⟨q1, hq1, hq1', hq1n⟩ := F.row hm1 him
          obtain ⟨q2, hq2, hq2', hq2n⟩ := G.row hm2 hxm
          have ea1 : ap s k i = q1 := by unfold ap; rw [hg1]; exact hq1'
          have ea2 : ap t k x = q2 := by unfold ap; rw [hg2]; exact hq2'
          obtain ⟨y, hy⟩ : ∃ y, l[q1]? = some y := ⟨_, List.getElem?_eq_getElem (by omega)⟩
          have ehz := e4'.trans e5
          refine et_is (et_of (K := K) (g_op (a := .d (.int (q2 : Int))) (b := .d (.int (y : Int))) (g_ixT (i := x) (d := encN q2) (g_ixT (i := k) (d := encR ch2) (g_dv (d := encNet t) rfl (hM.mono ehz)) (g_vn rfl) (encNet_get hch2)) (g_ixT (i := i) (d := encN x) (g_dv rfl (hz.mono ehz)) (g_vn rfl) (encR_get hx)) (encR_get hq2))
            (g_ixT (i := q1) (d := encN y) (g_dv rfl (hz.mono ehz)) (g_ixT (i := i) (d := encN q1) (g_ixT (i := k) (d := encR ch1) (g_dv (d := encNet s) rfl (hN.mono ehz)) (g_vn rfl) (encNet_get hch1)) (g_vn rfl) (encR_get hq1)) (encR_get hy)) rg_neD)) ?_
          rw [ea1, ea2, getD_of hy]
          congr 1
          rw [decide_eq_decide]
          omega
        · rw [eqv_nil] at hb2
          have hbad : badAt s t l i = true := by
            rw [hbe]
            cases hh : ([0, 1, 2] : List Nat).any fun c => !decide (ap t c x = l.getD (ap s c i) 0) with
            | true => rfl
            | false =>
              rw [List.any_eq_false] at hh
              refine absurd (show ∀ c < 3, (!decide (ap t c x = l.getD (ap s c i) 0)) = false from fun c hc => ?_) (of_decide_eq_false (by simpa using hb2))
              have hcm : c ∈ ([0, 1, 2] : List Nat) := by
                have : c = 0 ∨ c = 1 ∨ c = 2 := by omega
                rcases this with rfl | rfl | rfl <;> simp
              simpa using hh c hcm
          have hp := place_bad (s := s) (t := t) hval him hgood hbad
          rw [hp] at q
          exact retA (K := K) (a := .d (encN i)) (g_vn rfl) (fun v H9 e9 hv => q v H9 ((e4'.trans e5).trans e9) hv) rfl
        · rw [eqv_nil] at hb2
          refine ⟨_, rfl, e4'.trans e5, fun f hf => ?_⟩
          rcases Nat.lt_or_ge f i with h | h
          · exact hgood f h
          · have : f = i := by omega
            subst this
            rw [hbe, List.any_eq_false]
            intro c hcm
            have hc3 : c < 3 := by
              have : c = 0 ∨ c = 1 ∨ c = 2 := by simpa using hcm
              omega
            have := of_decide_eq_true (not_falseB hb2) c hc3
            rw [this]
            exact fun z => by cases z
    · obtain ⟨y4, rfl, e, hgood⟩ := hP
      rw [Int.toNat_natCast] at hgood
      have hp := place_ok (s := s) (t := t) hval hgood
      rw [hp] at q
      exact retA (K := K) (a := .d (.int (-1))) (g_un g_int ru_neg) (fun v H9 e9 hv => q v H9 (e.trans e9) hv) rfl
def spIsLike (K : PySem.W.Frag) : Sp := fun vs H Q _ => ∃ (v u z : V) (n m : Nat) (s t : Net) (d : PyData), vs = [v, u, z] ∧ Dp K H v (encNet s) ∧ Dp K H u (encNet t) ∧ Dr K H z d ∧ Good n s ∧ Good m t ∧ RetA K (.d (.bool (decide (place s t n m d = some none)))) H Q
/-- need_likeness: nets that may be no maps -/
def NeedP (bn bl : Addr) (s t : Net) (o p : Flt) (z : V) (d : PyData) (H : Hp) (Q : VK) (E : XK) : Prop := (∀ r f, o = some (r, f) → Thr bn [(("flag" : Str), fV f), (("word" : Str), .str r)] H E) ∧ (o = none → (∀ r f, p = some (r, f) → Thr bn [(("flag" : Str), fV f), (("word" : Str), .str r)] H E) ∧
  (p = none → ∃ n m, Good n s ∧ Good m t ∧ (place s t n m d = some none → RetV z H Q) ∧ (place s t n m d = none → Thr bl [(("place" : Str), .non)] H E) ∧ (∀ f, place s t n m d = some (some f) → Thr bl [(("place" : Str), nv f)] H E)))
/-- the second net may be anything if the first is no map -/
def spNeedL (K : PySem.W.Frag) (bn bl : Addr) : Sp := fun vs H Q E => ∃ (v u z : V) (s t : Net) (o p : Flt) (d : PyData), vs = [v, u, z] ∧ Dp K H v (encNet s) ∧ Fl s o ∧ (o = none → Dp K H u (encNet t) ∧ Fl t p ∧ Dr K H z d) ∧ NeedP bn bl s t o p z d H Q E
theorem spg_fault {H : Hp} {v u z : V} {n m : Nat} {s t : Net} {d : PyData} {enc : Option (Option Nat) → PyData} (hN : Dp K H v (encNet s)) (hM : Dp K H u (encNet t)) (hd : Dr K H z d) (F : Form n s) (G : Form m t) (hn : n ≤ 1000) : SpG K (spPlace K enc) H [.v v, .v u, .v z] (.d (enc (place s t n m d))) := fun vs H1 e hv Q E q => by
  match vs, hv with
  | [a, b, c], hv =>
    have h1 : a = v := hv.1
    have h2 : b = u := hv.2.1
    have h3 : c = z := hv.2.2.1
    subst h1 h2 h3
    exact ⟨a, b, c, n, m, s, t, d, rfl, hN.mono e, hM.mono e, dr_mono hd e, F, G, hn, q⟩
theorem shaped_LF (o : Option (Option Nat)) : SeqAt.shaped (encLF o) = true := by
  cases o with
  | none => decide +kernel
  | some o =>
    cases o with
    | none => decide +kernel
    | some f =>
      refine shaped_of ?_ ?_
      · show (PyData.tuple [encN f]).canLay0 = true
        exact can_R [f]
      · exact Nat.le_trans (depth_R [f]) (by decide)
theorem eqv_LF (o : Option (Option Nat)) : PyData.eqv (encLF o) (.tuple []) = decide (o = some none) := by
  cases o with
  | none => simp [encLF, PyData.eqv, PyData.eqvAll]
  | some o =>
    cases o with
    | none => simp [encLF, PyData.eqv, PyData.eqvAll]
    | some f => simp [encLF, PyData.eqv, PyData.eqvAll]
theorem rg_eqLF {H : Hp} {o : Option (Option Nat)} : RG K (rEqD K) H (.d (encLF o)) (.d (.tuple [])) (.d (.bool (decide (o = some none)))) := fun x y H1 e hx hy Q q => ⟨_, _, hx, hy, shaped_LF o, by decide +kernel, by rw [eqv_LF]; exact q _ H1 (Ex.refl H1) (.bl _)⟩
theorem rg_neLF {H : Hp} {o : Option (Option Nat)} : RG K (rNeD K) H (.d (encLF o)) (.d (.tuple [])) (.d (.bool (!decide (o = some none)))) := fun x y H1 e hx hy Q q => ⟨_, _, hx, hy, shaped_LF o, by decide +kernel, by rw [eqv_LF]; exact q _ H1 (Ex.refl H1) (.bl _)⟩
theorem g_tup0 {σ : L2.St} {H : Hp} : EvG K (tTup tNil) σ H (.d (.tuple [])) := g_tup (ds := []) gs_nil (by show 0 ≤ 100000; omega)
variable {bn bf bl nj : Addr}
theorem sc_is_likeness : FnScope ["net", "other_net", "value"] ["net", "other_net", "value"] (defScope (top 34)) := ⟨rfl, rfl, rfl, by decide +kernel, rfl, by decide +kernel, by decide +kernel⟩
theorem kn_is_likeness (T : Txt K mg) (XS : Exs P w K mg base bn bf bl nj) (G_need_net : Kn P w K mg base (L2.CX P w) 5 "need_net" ["net"] (spNeed K bn)) (G_likeness_fault : Kn P w K mg base CX0 3 "likeness_fault" ["net", "other_net", "value"] (spPlace K encLF)) : Kn P w K mg base CX0 6 "is_likeness" ["net", "other_net", "value"] (spIsLike K) := by
  obtain ⟨f, fd, F, hm⟩ := (T.df 24 (p := (34, "is_likeness")) rfl)
  refine kn_ok F hm sc_is_likeness (fun _ _ _ _ _ _ us hl => match us, hl with | [_, _, _], _ => rfl) (fun vs H Q E h => ?_) (fun cdv A outer s H vs Q E hr h => ?_)
  · obtain ⟨v, u, z, n, m, s, t, d, rfl, _⟩ := h
    rfl
  · obtain ⟨v, u, z, n, m, s, t, d, rfl, hN, hM, hd, G, G2, q⟩ := h
    have hn := G.most
    refine ⟨_, (pss_cons (ps_expr (pe_kn G_need_net (hr.mono (by decide)) (by rfl) passL (pa_cons (pv 0) pa_nil)))
  (pss_cons (ps_expr (pe_kn G_need_net (hr.mono (by decide)) (by rfl) passL (pa_cons (pv 1) pa_nil)))
  (pss_one (ps_ret (pe_cmpR (opK_eqD (K := K) (by rfl) hr.units) (pe_kn G_likeness_fault (hr.mono (by decide)) (by rfl) pass0 (pa_cons (pv 0) (pa_cons (pv 1) (pa_cons (pv 2) pa_nil)))) (pe_tup pa_nil) (nomark _)))))), ?_⟩
    refine q_drop (ev_need (K := K) (ev_var rfl) hN G) fun H1 e1 => ?_
    refine q_drop (ev_need (K := K) (ev_var rfl) (hM.mono e1) G2) fun H2 e2 => ?_
    have e12 := e1.trans e2
    exact retA (K := K) (a := .d (.bool (decide (place s t n m d = some none)))) (g_op (g_call (gs_cons (g_vv rfl) (gs_cons (g_vv rfl) (gs_cons (g_vv rfl) gs_nil))) (spg_fault (hN.mono e12) (hM.mono e12) (dr_mono hd e12) G.toForm G2.toForm (by omega))) g_tup0 rg_eqLF) (fun v H5 e5 hv => q v H5 (e12.trans e5) hv) rfl
theorem sc_need_likeness : FnScope ["net", "other_net", "likeness_told", "fault"] ["net", "other_net", "likeness_told"] (defScope (top 35)) := ⟨rfl, rfl, rfl, by decide +kernel, rfl, by decide +kernel, by decide +kernel⟩
theorem kn_need_likeness (T : Txt K mg) (XS : Exs P w K mg base bn bf bl nj) (G_need_net : Kn P w K mg base (L2.CX P w) 5 "need_net" ["net"] (spNeed K bn)) (G_likeness_fault : Kn P w K mg base CX0 3 "likeness_fault" ["net", "other_net", "value"] (spPlace K encLF)) : Kn P w K mg base (L2.CX P w) 6 "need_likeness" ["net", "other_net", "likeness_told"] (spNeedL K bn bl) := by
  obtain ⟨f, fd, F, hm⟩ := (T.df 25 (p := (35, "need_likeness")) rfl)
  refine kn_okX F hm sc_need_likeness (fun _ _ _ _ _ _ us hl => match us, hl with | [_, _, _], _ => rfl) (fun vs H Q E h => ?_) (fun cdv A outer s H vs Q E hr h => ?_)
  · obtain ⟨v, u, z, s, t, o, p, d, rfl, _⟩ := h
    rfl
  · obtain ⟨v, u, z, s, t, o, p, d, rfl, hN, hf, hM, q1, q2⟩ := h
    refine ⟨_, (pss_cons (ps_expr (pe_kn G_need_net (hr.mono (by decide)) (by rfl) (passX rfl rfl rfl rfl) (pa_cons (pv 0) pa_nil)))
  (pss_cons (ps_expr (pe_kn G_need_net (hr.mono (by decide)) (by rfl) (passX rfl rfl rfl rfl) (pa_cons (pv 1) pa_nil)))
  (pss_cons (ps_set (i := 3) sc_need_likeness.nd rfl (Or.inl rfl) (pe_kn G_likeness_fault (hr.mono (by decide)) (by rfl) pass0 (pa_cons (pv 0) (pa_cons (pv 1) (pa_cons (pv 2) pa_nil)))))
  (pss_cons (ps_if (pt_cmpR (opK_neD (K := K) (by rfl) hr.units) (pv 3) (pe_tup pa_nil) (nomark _))
  (pss_one (ps_raise rfl (takes_of rfl rfl rfl rfl) (pmk_c XS.blC (hr.mono (by decide)) (by rfl) (pa_cons (pe_ix (ixK_tup (K := K) (by rfl)) (pv 3) pe_int (fun _ _ => rfl)) pa_nil))))
  pss_nil)
  (pss_one (ps_ret (pv 2))))))), ?_⟩
    refine ⟨v, rfl, v, s, o, rfl, hN, hf, fun ho H1 e1 => ?_, q1⟩
    obtain ⟨hM, hf2, hd⟩ := hM ho
    obtain ⟨q3, q4⟩ := q2 ho
    refine ⟨u, rfl, u, t, p, rfl, hM.mono e1, hf2, fun hp H2 e2 => ?_, fun r f h => (q3 r f h).mono e1⟩
    obtain ⟨n, m, G, G2, qa, qb, qc⟩ := q4 hp
    have hn := G.most
    have e12 := e1.trans e2
    refine asg (g_call (K := K) (c := .d (encLF (place s t n m d))) (gs_cons (g_vv rfl) (gs_cons (g_vv rfl) (gs_cons (g_vv rfl) gs_nil))) (spg_fault (hN.mono e12) (hM.mono e12) (dr_mono hd e12) G.toForm G2.toForm (by omega))) fun y H3 e3 hy => ?_
    have e13 := e12.trans e3
    refine q_when (et_of (K := K) (g_op (g_dv rfl (show Dp K H3 y (encLF (place s t n m d)) from hy)) g_tup0 rg_neLF)) (fun hb H4 e4 => ?_) (fun hb H4 e4 => ?_)
    · have e14 := e13.trans e4
      have hy4 : Dp K H4 y (encLF (place s t n m d)) := Dp.mono hy e4
      cases hpl : place s t n m d with
      | none =>
        rw [hpl] at hy4
        refine raise_c (K := K) (as := [.d .none]) (gs_cons (g_ixT (i := 0) (g_dv rfl hy4) g_int rfl) gs_nil) (by show 1 ≤ 1000; omega) rfl fun ws H5 e5 hws => ?_
        match ws, hws with
        | [x], hws =>
          cases Dp.non_eq hws.1
          exact (qb hpl).mono (e14.trans e5)
      | some g =>
        cases g with
        | none => rw [hpl] at hb; simp at hb
        | some f =>
          rw [hpl] at hy4
          refine raise_c (K := K) (as := [.d (encN f)]) (gs_cons (g_ixT (i := 0) (g_dv rfl hy4) g_int rfl) gs_nil) (by show 1 ≤ 1000; omega) rfl fun ws H5 e5 hws => ?_
          match ws, hws with
          | [x], hws =>
            cases Dp.int_eq hws.1
            exact (qc f hpl).mono (e14.trans e5)
    · have hpl : place s t n m d = some none := of_decide_eq_true (not_falseB hb)
      exact s_ret (ev_var rfl) fun H5 e5 => qa hpl H5 ((e13.trans e4).trans e5)
end
end Nk
/-! ## X5: _law_needed, _law_read -/
namespace Nk
open PySem PySem.Spec PyProof.Rows L2 Evl

def netD (r : Str) (f : Option Nat) : PyData := .tuple [.str "net", .str r, fD f]
def letD (d : PyData) (o : Option (Option Nat)) : PyData := match o with
  | some none => .tuple [.str "let", d]
  | none => .tuple [.str "likeness", .none]
  | some (some f) => .tuple [.str "likeness", encN f]
def NeededR (s t : Net) (o p : Flt) (d e : PyData) : Prop := (∃ r f, o = some (r, f) ∧ e = netD r f) ∨ (o = none ∧ ∃ r f, p = some (r, f) ∧ e = netD r f) ∨ (o = none ∧ p = none ∧ ∃ n m, Good n s ∧ Good m t ∧ e = letD d (place s t n m d))
def spNeeded (K : PySem.W.Frag) : Sp := fun vs H Q _ => ∃ (v u z : V) (s t : Net) (o p : Flt) (d e : PyData), vs = [v, u, z] ∧ Dp K H v (encNet s) ∧ Fl s o ∧ (o = none → Dp K H u (encNet t) ∧ Fl t p ∧ Dr K H z d) ∧ NeededR s t o p d e ∧ RetR K e H Q
theorem fV_dp {K : PySem.W.Frag} {H : Hp} (f : Option Nat) : Dp K H (fV f) (fD f) := by
  cases f with
  | none => exact .non
  | some f => exact .int _
section
variable {P : Program} {w : World} {K : PySem.W.Frag} {mg : Str → Option Value} {base : Heap} {bn bf bl nj : Addr}
theorem sc_law_needed : FnScope ["_law_net_here", "_law_other", "_law_value", "_law_told", "e"] ["_law_net_here", "_law_other", "_law_value"] (defScope (top 62)) := ⟨rfl, rfl, rfl, by decide +kernel, rfl, by decide +kernel, by decide +kernel⟩
theorem kn_law_needed (T : Txt K mg) (XS : Exs P w K mg base bn bf bl nj) (G_need_likeness : Kn P w K mg base (L2.CX P w) 6 "need_likeness" ["net", "other_net", "likeness_told"] (spNeedL K bn bl)) : Kn P w K mg base CX0 7 "_law_needed" ["_law_net_here", "_law_other", "_law_value"] (spNeeded K) := by
  obtain ⟨f, fd, F, hm⟩ := (T.df 51 (p := (62, "_law_needed")) rfl)
  refine kn_ok F hm sc_law_needed (fun _ _ _ _ _ _ us hl => match us, hl with | [_, _, _], _ => rfl) (fun vs H Q E h => ?_) (fun cdv A outer s H vs Q E hr h => ?_)
  · obtain ⟨v, u, z, s, t, o, p, d, e, rfl, _⟩ := h
    rfl
  · obtain ⟨v, u, z, s, t, o, p, d, e, rfl, hN, hf, hM, hR, q⟩ := h
    refine ⟨_, (pss_cons (ps_tryN sc_law_needed.nd rfl rfl (fun W pn xe tk po => (pss_one (ps_set (i := 3) sc_law_needed.nd rfl (Or.inl rfl) (pe_tup (pa_cons pe_str (pa_cons (pe_knS G_need_likeness (hr.mono (by decide)) (by rfl) tk (pa_cons (pv 0) (pa_cons (pv 1) (pa_cons (pv 2) pa_nil)))) pa_nil))))))
  (HAs.cons (i := 4) ⟨rfl, by decide, .inl XS.bnC.gm⟩ rfl rfl (fun a oe cls d pn hz hf => (pss_one (ps_set (i := 3) sc_law_needed.nd rfl (Or.inl rfl) (pe_tup (pa_cons pe_str (pa_cons (pe_xf XS.xbn.1 (XS.xbn.2 _ (by decide)) hz hf (pv 4)) (pa_cons (pe_xf XS.xbn.1 (XS.xbn.2 _ (by decide)) hz hf (pv 4)) pa_nil))))))) (HAs.cons (i := 4) ⟨rfl, by decide, .inl XS.blC.gm⟩ rfl rfl (fun a oe cls d pn hz hf => (pss_one (ps_set (i := 3) sc_law_needed.nd rfl (Or.inl rfl) (pe_tup (pa_cons pe_str (pa_cons (pe_xf XS.xbl.1 (XS.xbl.2 _ (by decide)) hz hf (pv 4)) pa_nil)))))) HAs.nil)))
  (pss_one (ps_ret (pv 3)))), ?_⟩
    -- what BadNet's clause does
    have net : ∀ {r : Str} {g : Option Nat}, e = netD r g → Thr bn [(("flag" : Str), fV g), (("word" : Str), .str r)] H (WE (wAsN K { nx := tRet (tVar 3) { nx := fun _ H' => Q .non H', rt := Q }, rt := Q } [(.ref bn, 4, fun a cls d => tAsg (tTup (tCons (tC (.str "net")) (tCons (tXf a cls d bn "word" (tVar 4)) (tCons (tXf a cls d bn "flag" (tVar 4)) tNil)))) (gName 3)), (.ref bl, 4, fun a cls d => tAsg (tTup (tCons (tC (.str "likeness")) (tCons (tXf a cls d bl "place" (tVar 4)) tNil))) (gName 3))]) [some v, some u, some z, none, none]) := fun {r g} he d H2 e2 hd => by
      refine ⟨true, XS.mnn, fun _ a na => ?_, fun z => by cases z⟩
      refine ⟨.ref a, rfl, rfl, rfl, d, _, .str r, rfl, hd, rfl, .ref a, rfl, rfl, rfl, d, _, fV g, rfl, hd, rfl, sz_of (by show 3 ≤ 100000; omega), fun pp hp => ?_⟩
      refine ⟨.ref pp, rfl, q _ _ (e2.trans (Ex.new hp)) (.dp ?_)⟩
      rw [he]
      exact .tup (st_of upd_same) (.cons (.str _) (.cons (.str _) (.cons (fV_dp g) .nil)))
    have lik : ∀ {x : V} {dx : PyData}, (∀ H, Dp K H x dx) → e = .tuple [.str "likeness", dx] → Thr bl [(("place" : Str), x)] H (WE (wAsN K { nx := tRet (tVar 3) { nx := fun _ H' => Q .non H', rt := Q }, rt := Q } [(.ref bn, 4, fun a cls d => tAsg (tTup (tCons (tC (.str "net")) (tCons (tXf a cls d bn "word" (tVar 4)) (tCons (tXf a cls d bn "flag" (tVar 4)) tNil)))) (gName 3)), (.ref bl, 4, fun a cls d => tAsg (tTup (tCons (tC (.str "likeness")) (tCons (tXf a cls d bl "place" (tVar 4)) tNil))) (gName 3))]) [some v, some u, some z, none, none]) := fun {x dx} hx he d H2 e2 hd => by
      refine ⟨false, XS.mln, (fun z => by cases z), fun _ => ⟨true, XS.mll, fun _ a na => ?_, fun z => by cases z⟩⟩
      refine ⟨.ref a, rfl, rfl, rfl, d, _, x, rfl, hd, rfl, sz_of (by show 2 ≤ 100000; omega), fun pp hp => ?_⟩
      refine ⟨.ref pp, rfl, q _ _ (e2.trans (Ex.new hp)) (.dp ?_)⟩
      rw [he]
      exact .tup (st_of upd_same) (.cons (.str _) (.cons (hx _) .nil))
    refine ⟨v, rfl, u, rfl, z, rfl, v, u, z, s, t, o, p, d, rfl, hN, hf, hM, fun r g ho => ?_, fun ho => ⟨fun r g hp => ?_, fun hp => ?_⟩⟩
    · rcases hR with ⟨r', g', ho', he⟩ | ⟨ho', _⟩ | ⟨ho', _⟩
      · rw [ho] at ho'
        cases ho'
        exact net he
      · rw [ho] at ho'; cases ho'
      · rw [ho] at ho'; cases ho'
    · rcases hR with ⟨r', g', ho', he⟩ | ⟨_, r', g', hp', he⟩ | ⟨_, hp', _⟩
      · rw [ho] at ho'; cases ho'
      · rw [hp] at hp'
        cases hp'
        exact net he
      · rw [hp] at hp'; cases hp'
    · rcases hR with ⟨r', g', ho', he⟩ | ⟨_, r', g', hp', he⟩ | ⟨_, _, n, m, G, G2, he⟩
      · rw [ho] at ho'; cases ho'
      · rw [hp] at hp'; cases hp'
      refine ⟨n, m, G, G2, fun hpl => ?_, fun hpl => ?_, fun g hpl => ?_⟩
      · rw [hpl] at he
        intro H2 e2
        refine ⟨sz_of (by show 2 ≤ 100000; omega), fun pp hpn => ⟨.ref pp, rfl, q _ _ (e2.trans (Ex.new hpn)) ?_⟩⟩
        rw [he]
        exact .tup (st_of upd_same) (.cons (.dp (.str _)) (.cons (dr_mono (hM ho).2.2 (e2.trans (Ex.new hpn))) .nil))
      · rw [hpl] at he
        exact lik (fun _ => .non) he
      · rw [hpl] at he
        exact lik (fun _ => .int _) he
def ReadR (s : Net) (o : Flt) (d e : PyData) : Prop := (∃ r f, o = some (r, f) ∧ e = netD r f) ∨ (o = none ∧ ∃ n, Good n s ∧ ((withinD d 0 ((n : Int) - 1) = false ∧ e = .tuple [.str "flag", d]) ∨ (withinD d 0 ((n : Int) - 1) = true ∧ 1 < (partsOf s n).length ∧ e = .tuple [.str "apart", encN (second s n)]) ∨
  (withinD d 0 ((n : Int) - 1) = true ∧ (partsOf s n).length ≤ 1 ∧ ∃ x, d = encN x ∧ e = .tuple [.str "let", encNet (rdg s n x)])))
def spReadL (K : PySem.W.Frag) : Sp := fun vs H Q _ => ∃ (v u : V) (s : Net) (o : Flt) (d e : PyData), vs = [v, u] ∧ Dp K H v (encNet s) ∧ Fl s o ∧ Dr K H u d ∧ ReadR s o d e ∧ RetR K e H Q
theorem encN_inj {a b : Nat} (h : encN a = encN b) : a = b := by
  unfold encN at h
  have := PyData.int.inj h
  omega
theorem sc_law_read : FnScope ["_law_net_here", "_law_flag", "_law_told", "e"] ["_law_net_here", "_law_flag"] (defScope (top 63)) := ⟨rfl, rfl, rfl, by decide +kernel, rfl, by decide +kernel, by decide +kernel⟩
theorem kn_law_read (T : Txt K mg) (XS : Exs P w K mg base bn bf bl nj) (G_reading_from : Kn P w K mg base (L2.CX P w) 8 "reading_from" ["net", "flag"] (spRead K bn bf nj)) : Kn P w K mg base CX0 9 "_law_read" ["_law_net_here", "_law_flag"] (spReadL K) := by
  obtain ⟨f, fd, F, hm⟩ := (T.df 52 (p := (63, "_law_read")) rfl)
  refine kn_ok F hm sc_law_read (fun _ _ _ _ _ _ us hl => match us, hl with | [_, _], _ => rfl) (fun vs H Q E h => ?_) (fun cdv A outer s H vs Q E hr h => ?_)
  · obtain ⟨v, u, s, o, d, e, rfl, _⟩ := h
    rfl
  · obtain ⟨v, u, s, o, d, e, rfl, hN, hf, hd, hR, q⟩ := h
    refine ⟨_, (pss_cons (ps_tryN sc_law_read.nd rfl rfl (fun W pn xe tk po => (pss_one (ps_set (i := 2) sc_law_read.nd rfl (Or.inl rfl) (pe_tup (pa_cons pe_str (pa_cons (pe_knS G_reading_from (hr.mono (by decide)) (by rfl) tk (pa_cons (pv 0) (pa_cons (pv 1) pa_nil))) pa_nil))))))
  (HAs.cons (i := 3) ⟨rfl, by decide, .inl XS.bnC.gm⟩ rfl rfl (fun a oe cls d pn hz hf => (pss_one (ps_set (i := 2) sc_law_read.nd rfl (Or.inl rfl) (pe_tup (pa_cons pe_str (pa_cons (pe_xf XS.xbn.1 (XS.xbn.2 _ (by decide)) hz hf (pv 3)) (pa_cons (pe_xf XS.xbn.1 (XS.xbn.2 _ (by decide)) hz hf (pv 3)) pa_nil))))))) (HAs.cons (i := 3) ⟨rfl, by decide, .inl XS.bfC.gm⟩ rfl rfl (fun a oe cls d pn hz hf => (pss_one (ps_set (i := 2) sc_law_read.nd rfl (Or.inl rfl) (pe_tup (pa_cons pe_str (pa_cons (pe_xf XS.xbf.1 (XS.xbf.2 _ (by decide)) hz hf (pv 3)) pa_nil)))))) (HAs.cons (i := 3) ⟨rfl, by decide, .inl XS.njC.gm⟩ rfl rfl (fun a oe cls d pn hz hf => (pss_one (ps_set (i := 2) sc_law_read.nd rfl (Or.inl rfl) (pe_tup (pa_cons pe_str (pa_cons (pe_xf XS.xnj.1 (XS.xnj.2 _ (by decide)) hz hf (pv 3)) pa_nil)))))) HAs.nil))))
  (pss_one (ps_ret (pv 2)))), ?_⟩
    refine ⟨v, rfl, u, rfl, v, u, s, o, d, rfl, hN, hf, hd, fun r g ho => ?_, fun ho => ?_⟩
    · rcases hR with ⟨r', g', ho', he⟩ | ⟨ho', _⟩
      · rw [ho] at ho'
        cases ho'
        intro d H2 e2 hd
        refine ⟨true, XS.mnn, fun _ a na => ?_, fun z => by cases z⟩
        refine ⟨.ref a, rfl, rfl, rfl, d, _, .str r, rfl, hd, rfl, .ref a, rfl, rfl, rfl, d, _, fV g, rfl, hd, rfl, sz_of (by show 3 ≤ 100000; omega), fun pp hp => ?_⟩
        refine ⟨.ref pp, rfl, q _ _ (e2.trans (Ex.new hp)) (.dp ?_)⟩
        rw [he]
        exact .tup (st_of upd_same) (.cons (.str _) (.cons (.str _) (.cons (fV_dp g) .nil)))
      · rw [ho] at ho'; cases ho'
    · rcases hR with ⟨r', g', ho', he⟩ | ⟨_, n, G, hR⟩
      · rw [ho] at ho'; cases ho'
      refine ⟨n, G, fun hw => ?_, fun hw hl => ?_, fun hw hl x hx => ?_⟩
      · rcases hR with ⟨_, he⟩ | ⟨hw', _⟩ | ⟨hw', _⟩
        · intro dd H2 e2 hdd
          refine ⟨false, XS.mfn, (fun z => by cases z), fun _ => ⟨true, XS.mff, fun _ a na => ?_, fun z => by cases z⟩⟩
          refine ⟨.ref a, rfl, rfl, rfl, dd, _, u, rfl, hdd, rfl, sz_of (by show 2 ≤ 100000; omega), fun pp hp => ?_⟩
          refine ⟨.ref pp, rfl, q _ _ (e2.trans (Ex.new hp)) ?_⟩
          rw [he]
          exact .tup (st_of upd_same) (.cons (.dp (.str _)) (.cons (dr_mono hd (e2.trans (Ex.new hp))) .nil))
        · rw [hw] at hw'; cases hw'
        · rw [hw] at hw'; cases hw'
      · rcases hR with ⟨hw', he⟩ | ⟨_, _, he⟩ | ⟨_, hl', _⟩
        · rw [hw] at hw'; cases hw'
        · intro dd H2 e2 hdd
          refine ⟨false, XS.mjn, (fun z => by cases z), fun _ => ⟨false, XS.mjf, (fun z => by cases z), fun _ => ⟨true, XS.mjj, fun _ a na => ?_, fun z => by cases z⟩⟩⟩
          refine ⟨.ref a, rfl, rfl, rfl, dd, _, nv (second s n), rfl, hdd, rfl, sz_of (by show 2 ≤ 100000; omega), fun pp hp => ?_⟩
          refine ⟨.ref pp, rfl, q _ _ (e2.trans (Ex.new hp)) (.dp ?_)⟩
          rw [he]
          exact .tup (st_of upd_same) (.cons (.str _) (.cons (.int _) .nil))
        · omega
      · rcases hR with ⟨hw', he⟩ | ⟨_, hl', _⟩ | ⟨_, _, x', hx', he⟩
        · rw [hw] at hw'; cases hw'
        · omega
        · have hxx : x' = x := encN_inj (hx'.symm.trans hx)
          subst hxx
          intro y H2 e2 hy
          refine ⟨sz_of (by show 2 ≤ 100000; omega), fun pp hpn => ⟨.ref pp, rfl, q _ _ (e2.trans (Ex.new hpn)) (.dp ?_)⟩⟩
          rw [he]
          exact .tup (st_of upd_same) (.cons (.str _) (.cons (Dp.mono hy (Ex.new hpn)) .nil))
end
end Nk
/-! ## X6: how long a repr may be; _law_like, _law_right_value -/
namespace Nk
open PySem PySem.Spec PyProof.Rows L2 Evl

mutual
def szD : PyData → Nat
  | .none => 4
  | .bool _ => 5
  | .int i => (PyData.shown (.int i)).length
  | .str x => (PyData.shown (.str x)).length
  | .list xs => 2 + szAll xs
  | .tuple xs => 3 + szAll xs
  | .dict kvs => (PyData.shown (.dict kvs)).length
def szAll : List PyData → Nat
  | [] => 0
  | x :: xs => szD x + 2 + szAll xs
end
theorem textFrom_le : ∀ (ts : List Str) (k : Nat) (acc : Str), (textFrom k acc ts).length ≤ acc.length + piled ts
  | [], k, acc => Nat.le_add_right _ _
  | t :: ts, k, acc => by
    have h := textFrom_le ts (k + 1) (acc ++ (if k > 0 then ", " else "" : String) ++ t)
    have e : (acc ++ (if k > 0 then ", " else "" : String) ++ t).length ≤ acc.length + 2 + t.length := by
      rw [strLen_append, strLen_append]
      split
      · have : ((", " : String) : Str).length = 2 := rfl
        omega
      · have : (("" : String) : Str).length = 0 := rfl
        omega
    rw [piled_cons]
    show (textFrom (k + 1) _ ts).length ≤ _
    omega
mutual
theorem shown_le : ∀ d : PyData, d.shown.length ≤ szD d
  | .none => by decide
  | .bool b => by cases b <;> decide
  | .int i => by rw [szD]; exact Nat.le_refl _
  | .str x => by rw [szD]; exact Nat.le_refl _
  | .dict k => by rw [szD]; exact Nat.le_refl _
  | .list xs => by
    rw [PyData.shown, szD]
    have h := shownAll_le xs
    have h2 := textFrom_le (PyData.shownAll xs) 0 "["
    unfold listText
    rw [strLen_append]
    have e1 : (("[" : String) : Str).length = 1 := rfl
    have e2 : (("]" : String) : Str).length = 1 := rfl
    omega
  | .tuple xs => by
    rw [PyData.shown, szD]
    have h := shownAll_le xs
    unfold tupleText
    rw [strLen_append, strLen_append]
    have e1 : (("(" : String) : Str).length = 1 := rfl
    have e3 : ((if (PyData.shownAll xs).length == 1 then ",)" else ")" : String) : Str).length ≤ 2 := by
      split
      · exact Nat.le_refl 2
      · decide
    have e2 : (Str.join ", " (PyData.shownAll xs)).length ≤ piled (PyData.shownAll xs) := by
      by_cases hn : PyData.shownAll xs = []
      · rw [hn]
        exact Nat.zero_le _
      · have := join_length_add _ hn
        omega
    omega
theorem shownAll_le : ∀ ds : List PyData, piled (PyData.shownAll ds) ≤ szAll ds
  | [] => by simp [PyData.shownAll, piled]
  | d :: ds => by
    rw [PyData.shownAll, piled_cons, szAll]
    have h1 := shown_le d
    have h2 := shownAll_le ds
    omega
end
/-- small data: shown without strain -/
structure Sm (d : PyData) (k : Nat) : Prop where
  sh : d.showable = true
  dp : d.depth ≤ 30
  sz : szD d ≤ k
theorem szAll_le {c : Nat} : ∀ {ds : List PyData}, (∀ d ∈ ds, szD d ≤ c) → szAll ds ≤ (c + 2) * ds.length
  | [], _ => by simp [szAll]
  | d :: ds, h => by
    rw [szAll, List.length_cons, Nat.mul_succ]
    have h1 := h d List.mem_cons_self
    have h2 := szAll_le fun x hx => h x (List.mem_cons_of_mem _ hx)
    omega
theorem showAll {ds : List PyData} (h : ∀ d ∈ ds, d.showable = true) : PyData.showableAll ds = true := by
  induction ds with
  | nil => simp [PyData.showableAll]
  | cons d ds ih =>
    rw [PyData.showableAll, h d List.mem_cons_self, ih fun x hx => h x (List.mem_cons_of_mem _ hx)]
    rfl
theorem int_sz : ∀ n < 1000, (PyData.shown (.int (Int.ofNat n))).length ≤ 3 := by decide +kernel
theorem int_sh : ∀ n < 1000, (PyData.int (Int.ofNat n)).showable = true := by decide +kernel
theorem sz_N {n : Nat} (h : n < 1000) : szD (encN n) ≤ 3 := by
  unfold encN
  rw [szD]
  exact int_sz n h
theorem sh_N {n : Nat} (h : n < 1000) : (encN n).showable = true := int_sh n h
theorem sm_R {l : List Nat} {n : Nat} (h : ∀ x ∈ l, x < n) (hn : n ≤ 1000) : (encR l).showable = true ∧ szD (encR l) ≤ 3 + 5 * l.length := by
  constructor
  · unfold encR
    rw [PyData.showable]
    exact showAll fun d hd => by
      obtain ⟨x, hx, rfl⟩ := List.mem_map.mp hd
      exact sh_N (by have := h x hx; omega)
  · unfold encR
    rw [szD]
    have := szAll_le (c := 3) (ds := l.map encN) fun d hd => by
      obtain ⟨x, hx, rfl⟩ := List.mem_map.mp hd
      exact sz_N (by have := h x hx; omega)
    rw [List.length_map] at this
    omega
theorem sm_Net {s : Net} {n : Nat} (F : Form n s) (hn : n ≤ 1000) : (encNet s).showable = true ∧ szD (encNet s) ≤ 18 + 15 * n := by
  constructor
  · unfold encNet
    rw [PyData.showable]
    exact showAll fun d hd => by
      obtain ⟨x, hx, rfl⟩ := List.mem_map.mp hd
      exact (sm_R (F.lt x hx) hn).1
  · unfold encNet
    rw [szD]
    have := szAll_le (c := 3 + 5 * n) (ds := s.map encR) fun d hd => by
      obtain ⟨x, hx, rfl⟩ := List.mem_map.mp hd
      have := (sm_R (F.lt x hx) hn).2
      rw [F.len x hx] at this
      exact this
    rw [List.length_map, F.three] at this
    omega
def okV (v : V) (d : PyData) : Prop := (∃ a, v = .ref a) ∨ ∃ b, v = .bl b ∧ d = .bool b
/-- two values that read alike -/
def spSame (K : PySem.W.Frag) : Sp := fun vs H Q _ => ∃ (v u : V) (d : PyData), vs = [v, u] ∧ Dr K H v d ∧ Dr K H u d ∧ okV v d ∧ okV u d ∧ Sm d 100000 ∧ RetA K (.d (.bool true)) H Q
theorem dr_ref {K : PySem.W.Frag} {H : Hp} {v : V} {d : PyData} (h : Dr K H v d) (hd : (∃ ds, d = .list ds) ∨ ∃ ds, d = .tuple ds) : okV v d := by
  refine .inl ?_
  rcases hd with ⟨ds, rfl⟩ | ⟨ds, rfl⟩
  · cases h with
    | dp h => cases h; exact ⟨_, rfl⟩
    | lst => exact ⟨_, rfl⟩
  · obtain ⟨a, _, e, _⟩ := dr_tup h
    exact ⟨a, e⟩
def spRV (K : PySem.W.Frag) : Sp := fun vs H Q _ => ∃ (v u z : V) (n m : Nat) (s t : Net) (d : PyData), vs = [v, u, z] ∧ Dp K H v (encNet s) ∧ Dp K H u (encNet t) ∧ Dr K H z d ∧ Good n s ∧ Good m t ∧ Sm d 90000 ∧ d.depth ≤ 29 ∧ RetA K (.d (.bool true)) H Q
theorem sm_pair {x : Str} {d : PyData} {k : Nat} (h : Sm d k) (hd : d.depth ≤ 29) (hx : (PyData.shown (.str x)).length ≤ 50) (hk : k + 60 ≤ 100000) : Sm (.tuple [.str x, d]) 100000 := by
  refine ⟨?_, ?_, ?_⟩
  · rw [PyData.showable, PyData.showableAll, PyData.showableAll, PyData.showableAll, h.sh, PyData.showable]
    rfl
  · exact depth_tup (k := 29) fun e he => by
      rcases List.mem_cons.mp he with rfl | he
      · simp [PyData.depth]
      · rw [List.mem_singleton.mp he]
        exact hd
  · rw [szD, szAll, szAll, szAll, szD]
    have := h.sz
    omega
section
variable {P : Program} {w : World} {K : PySem.W.Frag} {mg : Str → Option Value} {base : Heap} {bn bf bl nj : Addr}
theorem ev_repr {σ : L2.St} {H : Hp} {te : TE} {v : V} {d : PyData} (h : Ev te σ H v) (hd : Dr K H v d) (ho : okV v d) (hs : Sm d 100000) : Ev (tCB (rReprD K) (tCons te tNil)) σ H (.str d.shown) := fun H1 e Q q =>
  h H1 e _ fun H2 e2 => ⟨v, d, rfl, dr_mono hd (e.trans e2), ho, hs.sh, Nat.le_trans hs.dp (by decide), sz_of (Nat.le_trans (shown_le d) hs.sz), q H2 e2⟩
theorem sc_law_like : FnScope ["_law_got", "_law_due"] ["_law_got", "_law_due"] (defScope (top 41)) := ⟨rfl, rfl, rfl, by decide +kernel, rfl, by decide +kernel, by decide +kernel⟩
theorem kn_law_like (T : Txt K mg) : KnG P w K mg base 1 "_law_like" ["_law_got", "_law_due"] (spSame K) := by
  obtain ⟨f, fd, F, hm⟩ := (T.df 30 (p := (41, "_law_like")) rfl)
  refine kng_ok F hm sc_law_like (fun _ _ _ _ _ _ us hl => match us, hl with | [_, _], _ => rfl) (fun vs H Q E h => ?_) (fun cdv A outer s H vs Q E hr hG h => ?_)
  · obtain ⟨v, u, d, rfl, _⟩ := h
    rfl
  · obtain ⟨v, u, d, rfl, hv, hu, ov, ou, hs, q⟩ := h
    refine ⟨_, (pss_one (ps_ret (pe_cmpR op_eq (pe_callB (cK_repr (K := K) (by rfl) T.sys hG hr.units) (by rfl) T.repr bt_repr (pa_cons (pv 0) pa_nil)) (pe_callB (cK_repr (K := K) (by rfl) T.sys hG hr.units) (by rfl) T.repr bt_repr (pa_cons (pv 1) pa_nil)) (nomark _)))), ?_⟩
    refine s_ret (ev_is (ev_op (ev_repr (K := K) (ev_var rfl) hv ov hs) (ev_repr (K := K) (ev_var rfl) hu ou hs) (rv_eq rfl)) (by rw [decide_eq_true rfl])) fun H1 e1 => q _ H1 e1 (.bl _)
theorem eqv_Pl (o : Option (Option Nat)) : PyData.eqv (encPl o) (.int (-1)) = decide (o = some none) := by
  cases o with
  | none => simp [encPl, PyData.eqv]
  | some o =>
    cases o with
    | none => simp [encPl, PyData.eqv]
    | some f =>
      simp [encPl, encN, PyData.eqv]
theorem shaped_Pl (o : Option (Option Nat)) : SeqAt.shaped (encPl o) = true := by
  cases o with
  | none => decide +kernel
  | some o =>
    cases o with
    | none => decide +kernel
    | some f => exact shaped_of (by unfold encPl encN; rw [PyData.canLay0]) (Nat.le_trans (depth_N f) (by decide))
theorem rg_eqPl {H : Hp} {o : Option (Option Nat)} : RG K (rEqD K) H (.d (encPl o)) (.d (.int (-1))) (.d (.bool (decide (o = some none)))) := fun x y H1 e hx hy Q q => ⟨_, _, hx, hy, shaped_Pl o, by decide +kernel, by rw [eqv_Pl]; exact q _ H1 (Ex.refl H1) (.bl _)⟩
theorem place_lt {s t : Net} {n m f : Nat} {d : PyData} (h : place s t n m d = some (some f)) : f < n := by
  unfold place at h
  by_cases c : m ≠ n
  · rw [if_pos c] at h
    cases h
  · rw [if_neg c] at h
    obtain ⟨l, _, hl⟩ := Option.map_eq_some_iff.mp h
    have := List.mem_of_find?_eq_some hl
    exact List.mem_range.mp this
theorem sc_law_right_value : FnScope ["_law_net_here", "_law_other", "_law_value", "_law_due"] ["_law_net_here", "_law_other", "_law_value"] (defScope (top 64)) := ⟨rfl, rfl, rfl, by decide +kernel, rfl, by decide +kernel, by decide +kernel⟩
theorem kn_law_right_value (T : Txt K mg) (G_law_place : Kn P w K mg base CX0 2 "_law_place" ["_law_net_here", "_law_other", "_law_value"] (spPlace K encPl)) (G_law_like : KnG P w K mg base 1 "_law_like" ["_law_got", "_law_due"] (spSame K))
    (G_is_likeness : Kn P w K mg base CX0 6 "is_likeness" ["net", "other_net", "value"] (spIsLike K)) (G_law_needed : Kn P w K mg base CX0 7 "_law_needed" ["_law_net_here", "_law_other", "_law_value"] (spNeeded K)) :
    KnG P w K mg base 8 "_law_right_value" ["_law_net_here", "_law_other", "_law_value"] (spRV K) := by
  obtain ⟨f, fd, F, hm⟩ := (T.df 53 (p := (64, "_law_right_value")) rfl)
  refine kng_ok F hm sc_law_right_value (fun _ _ _ _ _ _ us hl => match us, hl with | [_, _, _], _ => rfl) (fun vs H Q E h => ?_) (fun cdv A outer s H vs Q E hr hG h => ?_)
  · obtain ⟨v, u, z, n, m, s, t, d, rfl, _⟩ := h
    rfl
  · obtain ⟨v, u, z, n, m, s, t, d, rfl, hN, hM, hd, G, G2, hs, hdd, q⟩ := h
    have hn := G.most
    refine ⟨_, (pss_cons (ps_set (i := 3) sc_law_right_value.nd rfl (Or.inl rfl) (pe_kn G_law_place (hr.mono (by decide)) (by rfl) pass0 (pa_cons (pv 0) (pa_cons (pv 1) (pa_cons (pv 2) pa_nil)))))
  (pss_cons (ps_if (pt_not (pt_val (pe_kg G_law_like (hr.mono (by decide)) hG (by rfl) (pa_cons (pe_kn G_is_likeness (hr.mono (by decide)) (by rfl) pass0 (pa_cons (pv 0) (pa_cons (pv 1) (pa_cons (pv 2) pa_nil)))) (pa_cons (pe_cmpR (opK_eqD (K := K) (by rfl) hr.units) (pv 3) (pe_un un_neg pe_int) (nomark _)) pa_nil)))))
  (pss_one (ps_ret pe_bl))
  pss_nil)
  (pss_one (ps_ret (pe_kg G_law_like (hr.mono (by decide)) hG (by rfl) (pa_cons (pe_kn G_law_needed (hr.mono (by decide)) (by rfl) pass0 (pa_cons (pv 0) (pa_cons (pv 1) (pa_cons (pv 2) pa_nil)))) (pa_cons (pe_ifExp (pt_cmpR (opK_eqD (K := K) (by rfl) hr.units) (pv 3) (pe_un un_neg pe_int) (nomark _)) (pe_tup (pa_cons pe_str (pa_cons (pv 2) pa_nil))) (pe_tup (pa_cons pe_str (pa_cons (pv 3) pa_nil)))) pa_nil))))))), ?_⟩
    refine asg (g_call (K := K) (c := .d (encPl (place s t n m d))) (gs_cons (g_vv rfl) (gs_cons (g_vv rfl) (gs_cons (g_vv rfl) gs_nil))) (spg_fault hN hM hd G.toForm G2.toForm (by omega))) fun y H1 e1 hy => ?_
    have hy : Dp K H1 y (encPl (place s t n m d)) := hy
    have neg1 : ∀ {σ : L2.St} {H2 : Hp}, EvG K (tUn (rU fun i => .int (-i)) (tC (.int 1))) σ H2 (.d (.int (-1))) := g_un g_int ru_neg
    refine q_when (b := false) (et_is (et_not (a := true) (et_of (K := K) (g_call (c := .d (.bool true)) (gs_cons (a := .d (.bool (decide (place s t n m d = some none)))) (fun H2 e2 Q q => ⟨v, rfl, u, rfl, z, rfl, v, u, z, n, m, s, t, d, rfl, hN.mono (e1.trans e2), hM.mono (e1.trans e2), dr_mono hd (e1.trans e2), G, G2, q⟩)
      (gs_cons (a := .d (.bool (decide (place s t n m d = some none)))) (g_op (g_dv rfl hy) neg1 rg_eqPl) gs_nil)) (fun vs H2 e2 hv Q E q => ?_)))) rfl) (fun z => by cases z) (fun _ H2 e2 => ?_)
    · match vs, hv with
      | [a, b], hv =>
        have ha : Dp K H2 a _ := hv.1
        have hb : Dp K H2 b _ := hv.2.1
        cases ha.bl_eq
        cases hb.bl_eq
        refine ⟨_, _, _, rfl, .dp (.bl _), .dp (.bl _), .inr ⟨_, rfl, rfl⟩, .inr ⟨_, rfl, rfl⟩, ⟨by simp [PyData.showable], by simp [PyData.depth], by rw [szD]; omega⟩, q⟩
    · have e12 := e1.trans e2
      have hsd : Sm (letD d (place s t n m d)) 100000 := by
        cases hp : place s t n m d with
        | none => exact (show Sm (.tuple [.str "likeness", .none]) 100000 from ⟨by decide +kernel, by decide +kernel, by decide +kernel⟩)
        | some g =>
          cases g with
          | none => exact sm_pair hs hdd (by decide +kernel) (by omega)
          | some f =>
            have hf := place_lt hp
            exact sm_pair (k := 3) ⟨sh_N (by omega), Nat.le_trans (depth_N f) (by omega), sz_N (by omega)⟩ (Nat.le_trans (depth_N f) (by omega)) (by decide +kernel) (by omega)
      have htup : ∃ ds, letD d (place s t n m d) = .tuple ds := by
        cases place s t n m d with
        | none => exact ⟨_, rfl⟩
        | some g => cases g <;> exact ⟨_, rfl⟩
      refine ⟨v, rfl, u, rfl, z, rfl, v, u, z, s, t, none, none, d, letD d (place s t n m d), rfl, hN.mono e12, G.fl, fun _ => ⟨hM.mono e12, G2.fl, dr_mono hd e12⟩, .inr (.inr ⟨rfl, rfl, n, m, G, G2, rfl⟩), fun a H3 e3 ha => ?_⟩
      refine (et_of (K := K) (g_op (g_dv (σ := [some v, some u, some z, some y]) rfl (hy.mono (e2.trans e3))) neg1 rg_eqPl)) H3 (Ex.refl H3) _ fun H4 e4 => ?_
      have eh4 := (e12.trans e3).trans e4
      have fin : ∀ {p : Addr} {xs : List V}, H4 p = none → Dr K (upd H4 p (.tup xs)) (.ref p) (letD d (place s t n m d)) → spSame K [a, .ref p] (upd H4 p (.tup xs)) Q E0 := fun {p xs} hp hdr =>
        ⟨a, .ref p, letD d (place s t n m d), rfl, dr_mono ha (e4.trans (Ex.new hp)), hdr, dr_ref ha (.inr htup), .inl ⟨p, rfl⟩, hsd, fun w H5 e5 hw => q w H5 ((eh4.trans (Ex.new hp)).trans e5) hw⟩
      cases hp : place s t n m d with
      | none =>
        rw [hp] at hy fin
        refine ⟨y, rfl, sz_of (by show 2 ≤ 100000; omega), fun p hpn => fin hpn (.dp (.tup (st_of upd_same) (.cons (.str _) (.cons (hy.mono (((e2.trans e3).trans e4).trans (Ex.new hpn))) .nil))))⟩
      | some g =>
        cases g with
        | none =>
          rw [hp] at fin
          refine ⟨z, rfl, sz_of (by show 2 ≤ 100000; omega), fun p hpn => fin hpn (.tup (st_of upd_same) (.cons (.dp (.str _)) (.cons (dr_mono hd (eh4.trans (Ex.new hpn))) .nil)))⟩
        | some f =>
          rw [hp] at hy fin
          refine ⟨y, rfl, sz_of (by show 2 ≤ 100000; omega), fun p hpn => fin hpn (.dp (.tup (st_of upd_same) (.cons (.str _) (.cons (hy.mono (((e2.trans e3).trans e4).trans (Ex.new hpn))) .nil))))⟩
end
end Nk
/-! ## D1: the drawing state; _law_mixed, _law_draw -/
namespace Nk
open PySem PySem.Spec PyProof.Rows L2 Evl

def mdk (c g : Addr) (n : Nat) : List (Key × V) := [(Sum.inr ("cells" : Str), .ref c), (Sum.inr ("great" : Str), .ref g), (Sum.inr ("spot" : Str), nv n)]
/-- the state at m, its cells at c, its great ones at g; H0: what is known and stays -/
structure Wd (m c g : Addr) (b : Nat) (H0 H : Hp) : Prop where
  m0 : H0 m = none
  g0 : H0 g = none
  ne : m ≠ g
  ex : Ex H0 H
  hm : ∃ n : Nat, n ≤ b ∧ H m = some (.dK (mdk c g n))
  hc : ∃ cs : List Int, cs.length = 64 ∧ H0 c = some (.lst (cs.map V.int))
  hg : ∃ gs : List Int, H g = some (.lst (gs.map V.int))
def cutH (m g : Addr) (H : Hp) : Hp := fun a => if a = m ∨ a = g then none else H a
section
variable {m c g : Addr} {b : Nat} {H0 H H' : Hp}
theorem cut_ex : Ex (cutH m g H) H := fun a o h => by
  unfold cutH at h
  by_cases q : a = m ∨ a = g
  · rw [if_pos q] at h
    cases h
  · rw [if_neg q] at h
    exact h
theorem cut_at {a : Addr} (h1 : a ≠ m) (h2 : a ≠ g) : cutH m g H a = H a := if_neg fun z => z.elim h1 h2
theorem Wd.step (W : Wd m c g b H0 H) (e : Ex H H') : Wd m c g b H0 H' := ⟨W.m0, W.g0, W.ne, W.ex.trans e, (let ⟨n, h1, h2⟩ := W.hm; ⟨n, h1, e _ _ h2⟩), W.hc, (let ⟨gs, h⟩ := W.hg; ⟨gs, e _ _ h⟩)⟩
theorem Wd.exc (W : Wd m c g b H0 H) : Ex H0 (cutH m g H) := fun a o h => by
  have h1 : a ≠ m := fun z => by rw [z, W.m0] at h; cases h
  have h2 : a ≠ g := fun z => by rw [z, W.g0] at h; cases h
  rw [cut_at h1 h2]
  exact W.ex _ _ h
theorem Wd.full (W : Wd m c g b H0 H) : Wd m c g b (cutH m g H) H := ⟨if_pos (.inl rfl), if_pos (.inr rfl), W.ne, cut_ex, W.hm, (let ⟨cs, h1, h2⟩ := W.hc; ⟨cs, h1, W.exc _ _ h2⟩), W.hg⟩
theorem Wd.imp {H1 : Hp} (W : Wd m c g b H1 H) (e : Ex H0 H1) (hc : ∃ cs : List Int, cs.length = 64 ∧ H0 c = some (.lst (cs.map V.int))) : Wd m c g b H0 H := by
  refine ⟨?_, ?_, W.ne, e.trans W.ex, W.hm, hc, W.hg⟩
  · cases h : H0 m with
    | none => rfl
    | some o =>
      have z := e _ _ h
      rw [W.m0] at z
      cases z
  · cases h : H0 g with
    | none => rfl
    | some o =>
      have z := e _ _ h
      rw [W.g0] at z
      cases z
theorem Wd.le {b' : Nat} (W : Wd m c g b H0 H) (h : b ≤ b') : Wd m c g b' H0 H := ⟨W.m0, W.g0, W.ne, W.ex, (let ⟨n, h1, h2⟩ := W.hm; ⟨n, Nat.le_trans h1 h, h2⟩), W.hc, W.hg⟩
/-- what is new joins the known -/
theorem Wd.new {p : Addr} {o : HO} (W : Wd m c g b H0 H) (hp : H p = none) : Wd m c g b (upd H0 p o) (upd H p o) := by
  have pm : m ≠ p := fun z => by obtain ⟨_, _, h⟩ := W.hm; rw [z, hp] at h; cases h
  have pg : g ≠ p := fun z => by obtain ⟨_, h⟩ := W.hg; rw [z, hp] at h; cases h
  refine ⟨by rw [upd_ne pm]; exact W.m0, by rw [upd_ne pg]; exact W.g0, W.ne, fun a u h => ?_, ?_, ?_, ?_⟩
  · by_cases q : a = p
    · rw [q, upd_same] at h ⊢
      exact h
    · rw [upd_ne q] at h ⊢
      exact W.ex _ _ h
  · obtain ⟨n, h1, h2⟩ := W.hm
    exact ⟨n, h1, by rw [upd_ne pm]; exact h2⟩
  · obtain ⟨cs, h1, h2⟩ := W.hc
    refine ⟨cs, h1, ?_⟩
    rw [upd_ne (fun z => by have := W.ex _ _ h2; rw [z, hp] at this; cases this)]
    exact h2
  · obtain ⟨gs, h⟩ := W.hg
    exact ⟨gs, by rw [upd_ne pg]; exact h⟩
end
def spMixed (K : PySem.W.Frag) : Sp := fun vs H Q _ => ∃ (x : Int) (n : Nat), vs = [.int x, nv n] ∧ n ≤ 2000000 ∧ ∀ y H2, Ex H H2 → Q (.int y) H2
/-- a draw below lim -/
def spDraw : Sp := fun vs H Q _ => ∃ (m c g : Addr) (b lim : Nat) (H0 : Hp), vs = [.ref m, nv lim] ∧ 0 < lim ∧ lim ≤ 100000 ∧ b ≤ 1000000 ∧ Wd m c g b H0 H ∧ ∀ r H2, r < lim → Wd m c g (b + 1) H0 H2 → Q (nv r) H2
section
variable {K : PySem.W.Frag} {σ : L2.St} {H : Hp} {ta tb te : TE}
theorem rg_mul {i j : Int} (h : CMul i j) : RG K (rI CMul fun i j => .int (i * j)) H (.d (.int i)) (.d (.int j)) (.d (.int (i * j))) := rg_I h
theorem rg_mod {i j : Int} (h : 0 < j) : RG K (rI (fun _ j => 0 < j) fun i j => .int (i % j)) H (.d (.int i)) (.d (.int j)) (.d (.int (i % j))) := rg_I h
theorem rg_fdiv {i j : Int} (h : CDiv i j) : RG K (rI CDiv fun i j => .int (i / j)) H (.d (.int i)) (.d (.int j)) (.d (.int (i / j))) := rg_I h
theorem rg_fdivN {i j : Int} (h : CDivN i j) : RG K (rI CDivN fun i j => .int (i.fdiv j)) H (.d (.int i)) (.d (.int j)) (.d (.int (i.fdiv j))) := rg_I h
theorem g_int1 {i : Int} (h : EvG K te σ H (.d (.int i))) : EvG K (tCB (fun xs H Q => (∃ i, xs = [.int i] ∧ Q (.int i) H) ∨ ∃ k, xs = [.bl k] ∧ Q (.int (if k then 1 else 0)) H) (tCons te tNil)) σ H (.d (.int i)) := fun H1 e Q q =>
  h H1 e _ fun w H2 e2 hw => by
    cases Dp.int_eq hw
    exact .inl ⟨i, rfl, q _ H2 e2 (.int _)⟩
theorem mul_r {i j : Int} (h1 : -(2 ^ 64) < j) (h2 : j < 2 ^ 64) : CMul i j := .inr ⟨h1, h2⟩
theorem mul_l {i j : Int} (h1 : -(2 ^ 64) < i) (h2 : i < 2 ^ 64) : CMul i j := .inl ⟨h1, h2⟩
variable {P : Program} {w : World} {mg : Str → Option Value} {base : Heap}
theorem sc_law_mixed : FnScope ["_law_cell", "_law_n", "_law_blend"] ["_law_cell", "_law_n"] (defScope (top 37)) := ⟨rfl, rfl, rfl, by decide +kernel, rfl, by decide +kernel, by decide +kernel⟩
theorem kn_law_mixed (T : Txt K mg) : Kn P w K mg base CX0 1 "_law_mixed" ["_law_cell", "_law_n"] (spMixed K) := by
  obtain ⟨f, fd, F, hm⟩ := (T.df 26 (p := (37, "_law_mixed")) rfl)
  refine kn_ok F hm sc_law_mixed (fun _ _ _ _ _ _ us hl => match us, hl with | [_, _], _ => rfl) (fun vs H Q E h => ?_) (fun cdv A outer s H vs Q E hr h => ?_)
  · obtain ⟨x, n, rfl, _⟩ := h
    rfl
  · obtain ⟨x, n, rfl, hn, q⟩ := h
    refine ⟨_, (pss_cons (ps_set (i := 2) sc_law_mixed.nd rfl (Or.inl rfl) (pe_op op_add (pe_op op_add (pe_op op_mod (pe_callTy call_int1 (by rfl) T.int bt_int (pa_cons (pe_op op_mul (pe_op op_mul (pv 0) (pe_op op_add pe_int (pe_op op_mul pe_int (pv 1)))) pe_int) pa_nil)) pe_int) (pe_op op_mul (pe_op op_mul pe_int (pv 1)) (pv 1))) (pe_op op_mul pe_int (pv 1))))
  (pss_one (ps_ret (pe_op op_fdiv (pe_op op_mod (pe_callTy call_int1 (by rfl) T.int bt_int (pa_cons (pe_op op_mul (pv 2) pe_int) pa_nil)) pe_int) pe_int)))), ?_⟩
    have h1 : (n : Int) ≤ 2000000 := by omega
    have h0 : (0 : Int) ≤ n := by omega
    refine asg (K := K) (a := .d (.int ((x * (1 + 2 * (n : Int)) * 48271) % 2147483647 + 7919 * (n : Int) * n + 104729 * (n : Int)))) (g_op (g_op (g_op (g_int1 (g_op (g_op (g_vi rfl) (g_op g_int (g_op g_int (g_vn rfl) (rg_mul (mul_r (by omega) (by omega)))) rg_add) (rg_mul (mul_r (by omega) (by omega)))) g_int (rg_mul (mul_r (by omega) (by omega))))) g_int (rg_mod (by omega)))
      (g_op (g_op g_int (g_vn rfl) (rg_mul (mul_r (by omega) (by omega)))) (g_vn rfl) (rg_mul (mul_r (by omega) (by omega)))) rg_add) (g_op g_int (g_vn rfl) (rg_mul (mul_r (by omega) (by omega)))) rg_add) fun y H1 e1 hy => ?_
    cases Dp.int_eq hy
    refine retG (K := K) (g_op (g_op (g_int1 (g_op (g_vi rfl) g_int (rg_mul (mul_r (by omega) (by omega))))) g_int (rg_mod (by omega))) g_int (rg_fdiv ⟨by omega, by omega⟩)) fun v H2 e2 hv => ?_
    cases Dp.int_eq hv
    exact q _ H2 (e1.trans e2)
/-- some int -/
def EvI (te : TE) (σ : L2.St) (H : Hp) : Prop := ∀ H1, Ex H H1 → ∀ Q : VK, (∀ (y : Int) H2, Ex H1 H2 → Q (.int y) H2) → te σ H1 Q
theorem evI_g {i : Int} (h : EvG K te σ H (.d (.int i))) : EvI te σ H := fun H1 e Q q => h H1 e _ fun v H2 e2 hv => by
  cases Dp.int_eq hv
  exact q i H2 e2
theorem evI_mixed {n : Nat} {E : XK} (h : EvI ta σ H) (hb : Ev tb σ H (nv n)) (hn : n ≤ 2000000) : EvI (tCall (spMixed K) [] E (tCons ta (tCons tb tNil))) σ H := fun H1 e Q q =>
  h H1 e _ fun x H2 e2 => hb H2 (e.trans e2) _ fun H3 e3 => ⟨x, n, rfl, hn, fun y H4 e4 => q y H4 ((e2.trans e3).trans e4)⟩
theorem evI_int1 (h : EvI te σ H) : EvI (tCB (fun xs H Q => (∃ i, xs = [.int i] ∧ Q (.int i) H) ∨ ∃ k, xs = [.bl k] ∧ Q (.int (if k then 1 else 0)) H) (tCons te tNil)) σ H := fun H1 e Q q =>
  h H1 e _ fun x H2 e2 => .inl ⟨x, rfl, q x H2 e2⟩
theorem ev_draw {lim : Nat} {Q : VK} (h : EvI ta σ H) (hb : Ev tb σ H (nv lim)) (hl : 0 < lim) (q : ∀ (r : Nat) H2, r < lim → Ex H H2 → Q (nv r) H2) : tOp (rI (fun _ j => 0 < j) fun i j => .int (i % j)) ta tb σ H Q := by
  refine h H (Ex.refl H) _ fun x H2 e2 => hb H2 e2 _ fun H3 e3 => ⟨x, (lim : Int), rfl, rfl, by omega, ?_⟩
  obtain ⟨r, hr⟩ : ∃ r : Nat, x % (lim : Int) = (r : Int) := ⟨(x % (lim : Int)).toNat, by
    have := Int.emod_nonneg x (show (lim : Int) ≠ 0 by omega)
    omega⟩
  show Q (.int (x % (lim : Int))) H3
  rw [hr]
  refine q r H3 ?_ (e2.trans e3)
  have := Int.emod_lt_of_pos x (show (0 : Int) < lim by omega)
  omega
theorem q_whenK {D : Ends} {tu tz : TS} {t : TT} {b : Bool} (M : L2.St → Hp → Prop) (h : EvT t σ H b) (k : ∀ σ' H', M σ' H' → tz D σ' H') (h1 : b = true → (∀ σ' H', M σ' H' → tz D σ' H') → ∀ H1, Ex H H1 → tu { D with nx := tz D } σ H1) (h2 : b = false → ∀ H1, Ex H H1 → M σ H1) : tSeq (tIfS t tu tNext) tz D σ H :=
  q_when h (fun hb H1 e1 => h1 hb k H1 e1) (fun hb H1 e1 => k _ _ (h2 hb H1 e1))
theorem shaped_ints (l : List Int) : SeqAt.shaped (.list (l.map .int)) = true := by
  refine shaped_of ?_ ?_
  · rw [PyData.canLay0]
    exact canAll fun d hd => by
      obtain ⟨n, _, rfl⟩ := List.mem_map.mp hd
      rw [PyData.canLay0]
  · exact Nat.le_trans (depth_lst (k := 1) fun d hd => by
      obtain ⟨n, _, rfl⟩ := List.mem_map.mp hd
      simp [PyData.depth]) (by decide)
theorem dput_spot {c g : Addr} {n k : Nat} : putK (mdk c g n) (Sum.inr ("spot" : Str)) (nv k) = mdk c g k := rfl
theorem ints_get {l : List Int} {i : Nat} {x : Int} (h : l[i]? = some x) : (l.map V.int)[i]? = some (.int x) := by rw [List.getElem?_map, h]; rfl
theorem sc_law_draw : FnScope ["_law_m", "_law_limit", "_law_n", "_law_lot", "_law_here", "_law_cell"] ["_law_m", "_law_limit"] (defScope (top 39)) := ⟨rfl, rfl, rfl, by decide +kernel, rfl, by decide +kernel, by decide +kernel⟩
theorem kn_law_draw (T : Txt K mg) (G_law_mixed : Kn P w K mg base CX0 1 "_law_mixed" ["_law_cell", "_law_n"] (spMixed K)) : Kn P w K mg base CX0 2 "_law_draw" ["_law_m", "_law_limit"] spDraw := by
  obtain ⟨f, fd, F, hm⟩ := (T.df 28 (p := (39, "_law_draw")) rfl)
  refine kn_ok F hm sc_law_draw (fun _ _ _ _ _ _ us hl => match us, hl with | [_, _], _ => rfl) (fun vs H Q E h => ?_) (fun cdv A outer s H vs Q E hr h => ?_)
  · obtain ⟨m, c, g, b, lim, H0, rfl, _⟩ := h
    rfl
  · obtain ⟨m, c, g, b, lim, H0, rfl, hl0, hl1, hb, W, q⟩ := h
    refine ⟨_, (pss_cons (ps_set (i := 2) sc_law_draw.nd rfl (Or.inl rfl) (pe_dget (hu_of hr) (pv 0) pe_str (fun _ _ => rfl)))
  (pss_cons (ps_dput (hu_of hr) (pv 0) pe_str (pe_op op_add (pv 2) pe_int) rfl)
  (pss_cons (ps_if (pt_cmpR (opK_neD (K := K) (by rfl) hr.units) (pe_dget (hu_of hr) (pv 0) pe_str (fun _ _ => rfl)) (pe_lst pa_nil) (nomark _))
  (pss_cons (ps_set (i := 3) sc_law_draw.nd rfl (Or.inl rfl) (pe_dget (hu_of hr) (pv 0) pe_str (fun _ _ => rfl)))
  (pss_cons (ps_set (i := 4) sc_law_draw.nd rfl (Or.inl rfl) (pe_op op_mod (pe_callTy call_int1 (by rfl) T.int bt_int (pa_cons (pv 2) pa_nil)) (pe_callB (cK_len (K := K) (by rfl)) (by rfl) T.len bt_len (pa_cons (pv 3) pa_nil))))
  (pss_cons (ps_set (i := 5) sc_law_draw.nd rfl (Or.inl rfl) (pe_ix (ixK_list (K := K) (by rfl)) (pv 3) (pv 4) (fun _ _ => rfl)))
  (pss_one (ps_if (pt_cmpR op_gt (pv 5) pe_int (nomark _))
  (pss_cons (ps_asg (pe_op op_fdivN (pv 5) (pv 1)) (pg_sub (pv 3) (pv 4) set_list))
  (pss_one (ps_ret (pe_op op_mod (pe_callTy call_int1 (by rfl) T.int bt_int (pa_cons (pv 5) pa_nil)) (pv 1)))))
  pss_nil)))))
  pss_nil)
  (pss_cons (ps_set (i := 3) sc_law_draw.nd rfl (Or.inl rfl) (pe_dget (hu_of hr) (pv 0) pe_str (fun _ _ => rfl)))
  (pss_one (ps_ret (pe_op op_mod (pe_callTy call_int1 (by rfl) T.int bt_int (pa_cons (pe_kn G_law_mixed (hr.mono (by decide)) (by rfl) pass0 (pa_cons (pe_kn G_law_mixed (hr.mono (by decide)) (by rfl) pass0 (pa_cons (pe_op op_add (pe_ix (ixK_list (K := K) (by rfl)) (pv 3) (pe_op op_mod (pe_callTy call_int1 (by rfl) T.int bt_int (pa_cons (pv 2) pa_nil)) pe_int) (fun _ _ => rfl)) (pe_op op_mul pe_int (pe_op op_fdiv (pv 2) pe_int))) (pa_cons (pv 2) pa_nil))) (pa_cons (pe_op op_add (pv 2) pe_int) pa_nil))) pa_nil)) (pv 1)))))))), ?_⟩
    obtain ⟨n, hn, hmm⟩ := W.hm
    have hget : ∀ {H1 : Hp} {k : Nat} {x : Str} {v : V} {y2 y3 y4 y5 : Option V}, H1 m = some (.dK (mdk c g k)) → valV (mdk c g k) (Sum.inr x) = some v → Ev (tDGet (tVar 0) (tC (.str x))) [some (.ref m), some (nv lim), y2, y3, y4, y5] H1 v := fun {H1 k x v y2 y3 y4 y5} h1 h2 H2 e2 Q q =>
      ⟨.ref m, rfl, m, v, rfl, by rw [← h2]; exact DGet.k (k := Sum.inr x) (e2 _ _ h1), q H2 (Ex.refl H2)⟩
    refine q_asg (v := nv n) (hget hmm rfl) fun H1 e1 => ?_
    have W1 := W.step e1
    have hm1 := e1 _ _ hmm
    -- m['spot'] = n + 1
    refine (ev_op (ev_var (v := nv n) rfl) ev_c rv_I0 : Ev _ _ H1 (.int ((n : Int) + 1))) H1 (Ex.refl H1) _ fun H2 e2 => ?_
    refine ⟨.ref m, rfl, m, _, rfl, DPut.k (k := Sum.inr ("spot" : Str)) (e2 _ _ hm1) (by show 3 < sizeLine; decide), ?_⟩
    have W2 := W1.step e2
    have W3 : Wd m c g (b + 1) H0 (upd H2 m (.dK (mdk c g (n + 1)))) := by
      refine ⟨W.m0, W.g0, W.ne, Ex.mut W2.ex W.m0, ⟨n + 1, by omega, upd_same⟩, W.hc, ?_⟩
      obtain ⟨gs, hg⟩ := W2.hg
      exact ⟨gs, by rw [upd_ne W.ne.symm]; exact hg⟩
    show tSeq _ _ _ _ (upd H2 m (.dK (mdk c g (n + 1))))
    obtain ⟨gs, hgs⟩ := W3.hg
    have hm3 : (upd H2 m (.dK (mdk c g (n + 1)))) m = some (.dK (mdk c g (n + 1))) := upd_same
    have dg : Dp K (upd H2 m (.dK (mdk c g (n + 1)))) (.ref g) (.list (gs.map .int)) := .lst (sq_of hgs) (dpInts gs)
    refine q_whenK (fun τ G => ∃ y3 y4 y5 : Option V, τ = [some (.ref m), some (nv lim), some (nv n), y3, y4, y5] ∧ Wd m c g (b + 1) H0 G) (et_of (K := K) (g_op (a := .d (.list (gs.map .int))) (b := .d (.list [])) (g_ref (g_of_ev (hget hm3 rfl)) dg) g_nil (rg_neNil (shaped_ints gs)))) (fun τ G hM => ?_) (fun hb1 kk H4 e4 => ?_) (fun hb1 H4 e4 => ⟨none, none, none, rfl, W3.step e4⟩)
    · obtain ⟨y3, y4, y5, rfl, W4⟩ := hM
      obtain ⟨k, hk, hmk⟩ := W4.hm
      obtain ⟨cs, hcl, hcs⟩ := W4.hc
      refine q_asg (v := .ref c) (hget hmk rfl) fun H5 e5 => ?_
      have hc5 := e5 _ _ (W4.ex _ _ hcs)
      obtain ⟨i, hi⟩ : ∃ i : Nat, (n : Int) % 64 = (i : Int) := ⟨n % 64, by omega⟩
      have hil : i < cs.length := by
        have := Int.emod_lt_of_pos (n : Int) (show (0 : Int) < 64 by omega)
        omega
      obtain ⟨x, hx⟩ : ∃ x, cs[i]? = some x := ⟨_, List.getElem?_eq_getElem hil⟩
      have hbn : n ≤ 1000000 := by omega
      have hix : EvG K (tOp (rIxL K) (tVar 3) (tOp (rI (fun _ j => 0 < j) fun i j => .int (i % j)) (tCB (fun xs H Q => (∃ i, xs = [.int i] ∧ Q (.int i) H) ∨ ∃ k, xs = [.bl k] ∧ Q (.int (if k then 1 else 0)) H) (tCons (tVar 2) tNil)) (tC (.int 64)))) [some (.ref m), some (nv lim), some (nv n), some (.ref c), y4, y5] H5 (.d (.int x)) := by
        refine g_ref (g_of_ev (ev_ixL (v := .int x) (i := (i : Int)) (ev_var rfl) (sq_of hc5) (g_ev (g_toV (g_is (g_op (K := K) (g_int1 (g_vn (n := n) rfl)) (g_int (i := 64)) (rg_mod (by omega))) ?_))) (atI_n (ints_get hx)))) (.int x)
        rw [hi]
      have hsum : EvG K (tOp (rI CMul fun i j => .int (i * j)) (tC (.int 31)) (tOp (rI CDiv fun i j => .int (i / j)) (tVar 2) (tC (.int 64)))) [some (.ref m), some (nv lim), some (nv n), some (.ref c), y4, y5] H5 (.d (.int (31 * ((n : Int) / 64)))) :=
        g_op g_int (g_op (g_vn (n := n) rfl) g_int (rg_fdiv ⟨by omega, by omega⟩)) (rg_mul (mul_l (by omega) (by omega)))
      refine ev_draw (evI_int1 (evI_mixed (n := n + 7) (evI_mixed (n := n) (evI_g (g_op hix hsum rg_add)) (ev_var rfl) (by omega)) (ev_op (ev_var (v := nv n) rfl) ev_c rv_I0) (by omega))) (ev_var rfl) hl0 fun r H6 hr6 e6 => ?_
      exact q r H6 hr6 ((W4.step e5).step e6)
    · have hne : gs ≠ [] := by
        intro z
        rw [z] at hb1
        simp [PyData.eqv, PyData.eqvAll] at hb1
      have hlp : 0 < gs.length := List.length_pos_iff.mpr hne
      have W4 := W3.step e4
      have hg4 := e4 _ _ hgs
      refine q_asg (v := .ref g) (hget (e4 _ _ hm3) rfl) fun H5 e5 => ?_
      have hg5 := e5 _ _ hg4
      refine asg (g_op (K := K) (g_int1 (g_vn rfl)) (g_toD (g_of_ev (ev_lenL (ev_var rfl) (sq_of hg5)))) (rg_mod (i := (n : Int)) (by rw [List.length_map]; omega))) fun hv H6 e6 hhv => ?_
      cases Dp.int_eq hhv
      rw [List.length_map]
      obtain ⟨i, hi⟩ : ∃ i : Nat, (n : Int) % (gs.length : Int) = (i : Int) := ⟨n % gs.length, by omega⟩
      rw [hi]
      have hil : i < gs.length := by
        have := Int.emod_lt_of_pos (n : Int) (show (0 : Int) < gs.length by omega)
        omega
      obtain ⟨x, hx⟩ : ∃ x, gs[i]? = some x := ⟨_, List.getElem?_eq_getElem hil⟩
      have hg6 := e6 _ _ hg5
      refine q_asg (v := .int x) (ev_ixL (K := K) (ev_var rfl) (sq_of hg6) (ev_var rfl) (atI_n (ints_get hx))) fun H7 e7 => ?_
      have W7 := ((W4.step e5).step e6).step e7
      have hg7 := e7 _ _ hg6
      refine q_when (et_of (K := K) (g_op (g_vi (n := x) rfl) (g_int (i := 0)) rg_gt)) (fun hb2 H8 e8 => ?_) (fun hb2 H8 e8 => ?_)
      · have hg8 := e8 _ _ hg7
        refine q_setL (j := i) (v := .int (x.fdiv lim)) hg8 (g_ev (g_toV (g_op (K := K) (g_vi rfl) (g_vn rfl) (rg_fdivN ⟨by omega, by omega⟩)))) (ev_var rfl) (ev_var rfl) (by rw [List.length_map]; exact hil) fun H9 e9 => ?_
        have W9 : Wd m c g (b + 1) H0 (upd H9 g (.lst ((gs.map V.int).set i (.int (x.fdiv lim))))) := by
          have W8 := (W7.step e8).step e9
          refine ⟨W.m0, W.g0, W.ne, Ex.mut W8.ex W.g0, ?_, W.hc, ⟨gs.set i (x.fdiv lim), ?_⟩⟩
          · obtain ⟨k, h1, h2⟩ := W8.hm
            exact ⟨k, h1, by rw [upd_ne W.ne]; exact h2⟩
          · rw [upd_same, List.map_set]
        refine retG (K := K) (g_op (g_int1 (g_vi (n := x) rfl)) (g_vn rfl) (rg_mod (by omega))) fun y H10 e10 hy => ?_
        cases Dp.int_eq hy
        obtain ⟨r, hr⟩ : ∃ r : Nat, x % (lim : Int) = (r : Int) := ⟨(x % (lim : Int)).toNat, by
          have := Int.emod_nonneg x (show (lim : Int) ≠ 0 by omega)
          omega⟩
        rw [hr]
        refine q r H10 ?_ (W9.step e10)
        have := Int.emod_lt_of_pos x (show (0 : Int) < lim by omega)
        omega
      · exact kk _ _ ⟨_, _, _, rfl, W7.step e8⟩
end
end Nk
/-! ## D2: _law_folded, _law_begun, _law_of, _law_order -/
namespace Nk
open PySem PySem.Spec PyProof.Rows L2 Evl

def spFold (K : PySem.W.Frag) : Sp := fun vs H Q _ => ∃ (v : V) (cs : List Int), vs = [v] ∧ Dp K H v (.list (cs.map .int)) ∧ cs.length ≤ 1000 ∧ ∀ p H2 (ds : List Int), H p = none → Ex H H2 → H2 p = some (.lst (ds.map V.int)) → ds.length = 64 → Q (.ref p) H2
def spBegun (K : PySem.W.Frag) : Sp := fun vs H Q _ => ∃ (v : V) (cs : List Int), vs = [v] ∧ Dp K H v (.list (cs.map .int)) ∧ cs.length ≤ 1000 ∧ ∀ m c g H0 H2, Ex H H0 → Wd m c g 0 H0 H2 → Q (.ref m) H2
theorem Wd.mut {m c g a : Addr} {b : Nat} {H0 H : Hp} {o : HO} (W : Wd m c g b H0 H) (h : H0 a = none) (hm : a ≠ m) (hg : a ≠ g) : Wd m c g b H0 (upd H a o) := by
  refine ⟨W.m0, W.g0, W.ne, Ex.mut W.ex h, ?_, W.hc, ?_⟩
  · obtain ⟨n, h1, h2⟩ := W.hm
    exact ⟨n, h1, by rw [upd_ne hm.symm]; exact h2⟩
  · obtain ⟨gs, h2⟩ := W.hg
    exact ⟨gs, by rw [upd_ne hg.symm]; exact h2⟩
section
variable {K : PySem.W.Frag} {P : Program} {w : World} {mg : Str → Option Value} {base : Heap}
theorem sc_law_folded : FnScope ["_law_script", "_law_n", "_law_found", "_law_cell"] ["_law_script"] (defScope (top 38)) := ⟨rfl, rfl, rfl, by decide +kernel, rfl, by decide +kernel, by decide +kernel⟩
theorem kn_law_folded (T : Txt K mg) : Kn P w K mg base CX0 1 "_law_folded" ["_law_script"] (spFold K) := by
  obtain ⟨f, fd, F, hm⟩ := (T.df 27 (p := (38, "_law_folded")) rfl)
  refine kn_ok F hm sc_law_folded (fun _ _ _ _ _ _ us hl => match us, hl with | [_], _ => rfl) (fun vs H Q E h => ?_) (fun cdv A outer s H vs Q E hr h => ?_)
  · obtain ⟨v, cs, rfl, _⟩ := h
    rfl
  · obtain ⟨v, cs, rfl, hd, hl, q⟩ := h
    cases hd with
    | @lst sc xs _ hsc hxs =>
      have exs := DpAll.ints hxs
      subst exs
      refine ⟨_, (pss_cons (ps_setLc (i := 2) (own := [("_law_n", 1)]) (g := (gName 1)) (by rfl) sc_law_folded.nd rfl rfl (sw_true rfl rfl rfl (by decide +kernel)) (pi_range1 rfl T.range (pa_cons pe_int pa_nil)) (blkOk_by (by kernel_rfl)) (fun _ _ _ _ _ => (pg_name (i := 1) sc_law_folded.nd rfl (by first | exact Or.inl rfl | exact Or.inr rfl))) (fun _ _ _ _ _ => pts_nil) (fun _ _ _ _ _ => (pe_op op_add pe_int (pv 1))))
  (pss_cons (ps_for PassesOwn.never rfl (piK_enum (K := K) (by rfl) (by rfl) T.enumerate (pa_cons (pv 0) pa_nil)) (pg_tup rfl (pgs_cons (pg_name (i := 1) sc_law_folded.nd rfl (by first | exact Or.inl rfl | exact Or.inr rfl)) (pgs_cons (pg_name (i := 3) sc_law_folded.nd rfl (by first | exact Or.inl rfl | exact Or.inr rfl)) pgs_nil)))
  (pss_one (ps_asg (pe_op op_mod (pe_callTy call_int1 (by rfl) T.int bt_int (pa_cons (pe_op op_add (pe_op op_mul (pe_ix (ixK_list (K := K) (by rfl)) (pv 2) (pe_op op_mod (pe_callTy call_int1 (by rfl) T.int bt_int (pa_cons (pv 1) pa_nil)) pe_int) (fun _ _ => rfl)) pe_int) (pv 3)) pa_nil)) pe_int) (pg_sub (pv 2) (pe_op op_mod (pe_callTy call_int1 (by rfl) T.int bt_int (pa_cons (pv 1) pa_nil)) pe_int) set_list))))
  (pss_cons (ps_for PassesOwn.never rfl (pi_range2 rfl T.range (pa_cons pe_int (pa_cons pe_int pa_nil))) (pg_name (i := 1) sc_law_folded.nd rfl (by first | exact Or.inl rfl | exact Or.inr rfl))
  (pss_one (ps_asg (pe_op op_mod (pe_callTy call_int1 (by rfl) T.int bt_int (pa_cons (pe_op op_add (pe_ix (ixK_list (K := K) (by rfl)) (pv 2) (pv 1) (fun _ _ => rfl)) (pe_op op_mul (pe_ix (ixK_list (K := K) (by rfl)) (pv 2) (pe_op op_sub (pv 1) pe_int) (fun _ _ => rfl)) pe_int)) pa_nil)) pe_int) (pg_sub (pv 2) (pv 1) set_list))))
  (pss_one (ps_ret (pv 2)))))), ?_⟩
      refine q_asgL (el_lcR1 (fun _ => true) (fun i => .int (17 + (i : Int))) (n := 64) (ea_cons ev_c ea_nil) (by omega) (fun x => rfl) (fun i H1 e1 hi => et_yes) (fun i H1 e1 hi _ => ev_op ev_c (ev_var rfl) rv_I0)) fun p H1 p0 e1 hp1 => ?_
      let St := fun (σ : L2.St) (H' : Hp) => ∃ (y1 y3 : Option V) (ds : List Int), σ = [some (.ref sc), y1, some (.ref p), y3] ∧ Ex H H' ∧ H' p = some (.lst (ds.map V.int)) ∧ ds.length = 64
      have hstart : ∃ ds : List Int, H1 p = some (.lst (ds.map V.int)) ∧ ds.length = 64 := by
        refine ⟨(List.range 64).map fun (i : Nat) => 17 + (i : Int), ?_, by rw [List.length_map, List.length_range]⟩
        rw [hp1]
        congr 2
      obtain ⟨ds0, hp1, hl0⟩ := hstart
      refine q_enum (K := K) (a := sc) (xs := cs.map V.int) (ea_cons (ev_var rfl) ea_nil) (ex_l e1 hsc) (fun _ σ H' => St σ H') (fun H2 e2 => ⟨none, none, ds0, rfl, e1.trans e2, e2 _ _ hp1, hl0⟩) (fun i σ H' hP => let ⟨_, _, _, _, e, _⟩ := hP; ex_l e hsc) (fun i x σ H' H2 hi hP e2 => ?_) (fun σ H' hP => ?_)
      · obtain ⟨y1, y3, ds, rfl, e, hpd, hl⟩ := hP
        rw [List.getElem?_map] at hi
        obtain ⟨cell, _, rfl⟩ := Option.map_eq_some_iff.mp hi
        obtain ⟨j, hj⟩ : ∃ j : Nat, (i : Int) % 64 = (j : Int) := ⟨i % 64, by omega⟩
        have hjl : j < ds.length := by
          have := Int.emod_lt_of_pos (i : Int) (show (0 : Int) < 64 by omega)
          omega
        obtain ⟨z, hz⟩ : ∃ z, ds[j]? = some z := ⟨_, List.getElem?_eq_getElem hjl⟩
        have hp2 := e2 _ _ hpd
        have hix : EvG K (tOp (rI (fun _ j => 0 < j) fun i j => .int (i % j)) (tCB (fun xs H Q => (∃ i, xs = [.int i] ∧ Q (.int i) H) ∨ ∃ k, xs = [.bl k] ∧ Q (.int (if k then 1 else 0)) H) (tCons (tVar 1) tNil)) (tC (.int 64))) [some (.ref sc), some (nv i), some (.ref p), some (.int cell)] H2 (.d (.int (j : Int))) := by
          rw [← hj]
          exact g_op (g_int1 (g_vn (n := i) rfl)) g_int (rg_mod (by omega))
        have hel : EvG K (tOp (rIxL K) (tVar 2) (tOp (rI (fun _ j => 0 < j) fun i j => .int (i % j)) (tCB (fun xs H Q => (∃ i, xs = [.int i] ∧ Q (.int i) H) ∨ ∃ k, xs = [.bl k] ∧ Q (.int (if k then 1 else 0)) H) (tCons (tVar 1) tNil)) (tC (.int 64)))) [some (.ref sc), some (nv i), some (.ref p), some (.int cell)] H2 (.d (.int z)) :=
          g_ref (g_of_ev (ev_ixL (v := .int z) (ev_var rfl) (sq_of hp2) (g_ev (g_toV hix)) (atI_n (ints_get hz)))) (.int z)
        refine s_setL (j := j) hp2 (g_ev (g_toV (g_op (K := K) (g_int1 (g_op (g_op hel g_int (rg_mul (mul_r (by omega) (by omega)))) (g_vi (n := cell) rfl) rg_add)) g_int (rg_mod (by omega))))) (ev_var rfl) (g_ev (g_toV hix)) (by rw [List.length_map]; exact hjl) fun H3 e3 => ?_
        exact ⟨_, _, ds.set j ((z * 48271 + cell) % 2147483647), rfl, Ex.mut ((e.trans e2).trans e3) p0, by rw [upd_same, List.map_set], by rw [List.length_set]; exact hl⟩
      · obtain ⟨y1, y3, ds, rfl, e, hpd, hl⟩ := hP
        refine q_forR2 (lo := 1) (n := 64) (ea_cons ev_c (ea_cons ev_c ea_nil)) (by omega) (fun _ σ H' => St σ H') (fun H2 e2 => ⟨y1, y3, ds, rfl, e.trans e2, e2 _ _ hpd, hl⟩) (fun i σ H' hi hP => ?_) (fun σ H' hP => ?_)
        · obtain ⟨y1, y3, ds, rfl, e, hpd, hl⟩ := hP
          have h1 : i + 1 < ds.length := by omega
          obtain ⟨z, hz⟩ : ∃ z, ds[i + 1]? = some z := ⟨_, List.getElem?_eq_getElem h1⟩
          obtain ⟨z0, hz0⟩ : ∃ z, ds[i]? = some z := ⟨_, List.getElem?_eq_getElem (by omega)⟩
          have ei : (1 : Int) + (i : Int) = ((i + 1 : Nat) : Int) := by omega
          rw [ei]
          have hel : EvG K (tOp (rIxL K) (tVar 2) (tVar 1)) [some (.ref sc), some (nv (i + 1)), some (.ref p), y3] H' (.d (.int z)) := g_ref (g_of_ev (ev_ixL (v := .int z) (ev_var rfl) (sq_of hpd) (ev_var rfl) (atI_n (ints_get hz)))) (.int z)
          have hel0 : EvG K (tOp (rIxL K) (tVar 2) (tOp (rI0 fun i j => .int (i - j)) (tVar 1) (tC (.int 1)))) [some (.ref sc), some (nv (i + 1)), some (.ref p), y3] H' (.d (.int z0)) := by
            refine g_ref (g_of_ev (ev_ixL (v := .int z0) (i := (i : Int)) (ev_var rfl) (sq_of hpd) (ev_is (ev_op (ev_var (v := nv (i + 1)) rfl) ev_c rv_I0) ?_) (atI_n (ints_get hz0)))) (.int z0)
            show V.int (((i + 1 : Nat) : Int) - 1) = _
            congr 1
            omega
          refine s_setL (j := i + 1) hpd (g_ev (g_toV (g_op (K := K) (g_int1 (g_op hel (g_op hel0 g_int (rg_mul (mul_r (by omega) (by omega)))) rg_add)) g_int (rg_mod (by omega))))) (ev_var rfl) (ev_var rfl) (by rw [List.length_map]; exact h1) fun H3 e3 => ?_
          exact ⟨_, _, ds.set (i + 1) ((z + z0 * 16807) % 2147483647), rfl, Ex.mut (e.trans e3) p0, by rw [upd_same, List.map_set], by rw [List.length_set]; exact hl⟩
        · obtain ⟨y1, y3, ds, rfl, e, hpd, hl⟩ := hP
          exact s_ret (ev_var rfl) fun H5 e5 => q p H5 ds p0 (e.trans e5) (e5 _ _ hpd) hl
theorem sc_law_begun : FnScope ["_law_script", "_law_m", "_law_cell"] ["_law_script"] (defScope (top 40)) := ⟨rfl, rfl, rfl, by decide +kernel, rfl, by decide +kernel, by decide +kernel⟩
theorem kn_law_begun (T : Txt K mg) (G_law_folded : Kn P w K mg base CX0 1 "_law_folded" ["_law_script"] (spFold K)) : Kn P w K mg base CX0 2 "_law_begun" ["_law_script"] (spBegun K) := by
  obtain ⟨f, fd, F, hm⟩ := (T.df 29 (p := (40, "_law_begun")) rfl)
  refine kn_ok F hm sc_law_begun (fun _ _ _ _ _ _ us hl => match us, hl with | [_], _ => rfl) (fun vs H Q E h => ?_) (fun cdv A outer s H vs Q E hr h => ?_)
  · obtain ⟨v, cs, rfl, _⟩ := h
    rfl
  · obtain ⟨v, cs, rfl, hd, hl, q⟩ := h
    refine ⟨_, (pss_cons (ps_set (i := 1) sc_law_begun.nd rfl (Or.inl rfl) (pe_disp (pps_cons pe_str (pe_kn G_law_folded (hr.mono (by decide)) (by rfl) pass0 (pa_cons (pv 0) pa_nil)) (pps_cons pe_str (pe_lst pa_nil) (pps_cons pe_str pe_int pps_nil))) (by rfl) (by rfl) (fun z => by cases z) (by decide)))
  (pss_cons (ps_dput (hu_of hr) (pv 1) pe_str (pe_lc (own := [("_law_cell", 2)]) (g := (gName 2)) (by rfl) sc_law_begun.nd (piK_list (K := K) (by rfl) (pv 0)) (blkOk_by (by kernel_rfl)) (fun _ _ _ _ _ => (pg_name (i := 2) sc_law_begun.nd rfl (by first | exact Or.inl rfl | exact Or.inr rfl))) (fun _ _ _ _ _ => pts_nil) (fun _ _ _ _ _ => (pe_ifExp (pt_cmpR op_ge (pv 2) (pe_op op_pow pe_int pe_int) (nomark _)) (pv 2) pe_int))) rfl)
  (pss_one (ps_ret (pv 1))))), ?_⟩
    intro m m0
    have em : Ex H (upd H m (.dK [])) := Ex.new m0
    refine ⟨v, rfl, v, cs, rfl, Dp.mono hd em, hl, fun c H2 ds c0 e2 hc hdl => ?_⟩
    have hcm : c ≠ m := fun z => by rw [z, upd_same] at c0; cases c0
    have cH : H c = none := by rwa [upd_ne hcm] at c0
    refine ⟨sz_of (by show 0 ≤ 100000; omega), fun g0 hg0 => ?_⟩
    have hm2 : H2 m = some (.dK []) := e2 _ _ upd_same
    have hgm0 : m ≠ g0 := fun z => by rw [← z, hm2] at hg0; cases hg0
    refine ⟨by rw [upd_ne hgm0]; exact hm2, [(Sum.inr ("cells" : Str), .ref c), (Sum.inr ("great" : Str), .ref g0), (Sum.inr ("spot" : Str), .int 0)], rfl, (by show 3 ≤ 15; omega), ?_⟩
    have hgc : g0 ≠ c := fun z => by rw [z, hc] at hg0; cases hg0
    have e3 : Ex H2 (upd H2 g0 (.lst [])) := Ex.new hg0
    have ee : Ex H (upd (upd H2 g0 (.lst [])) m (.dK (mdk c g0 0))) := Ex.mut ((em.trans e2).trans e3) m0
    have hcc : (upd (upd H2 g0 (.lst [])) m (.dK (mdk c g0 0))) c = some (.lst (ds.map V.int)) := by rw [upd_ne hcm, upd_ne (Ne.symm hgc)]; exact hc
    cases hd with
    | @lst sc xs _ hsc hxs =>
      have exs := DpAll.ints hxs
      subst exs
      have hlist : ∀ {σ : L2.St} {H4 : Hp}, σ = [some (.ref sc), some (.ref m), none] → Ex H H4 → EvL (tLc (iList K (tVar 0)) (gName 2) tYes (tIf (tTest (tOp (rI0 fun i j => .bl (decide (j ≤ i))) (tVar 2) (tOp (rI CPow fun i j => .int (i ^ j.toNat)) (tC (.int 10)) (tC (.int 18))))) (tVar 2) (tC (.int 0))) [2]) σ H4
          (given (cs.map V.int).length (fun _ => true) fun k => .int (if (10 : Int) ^ 18 ≤ cs.getD k 0 then cs.getD k 0 else 0)) := fun {σ H4} hσ e4 => by
        subst hσ
        refine el_lcL (fun _ => true) (fun k => .int (if (10 : Int) ^ 18 ≤ cs.getD k 0 then cs.getD k 0 else 0)) (ev_var rfl) (ex_l e4 hsc) (by rw [List.length_map]; omega) (fun x => rfl) (fun i x H1 e1 hx => et_yes) (fun k y H5 e5 hdk _ => ?_)
        rw [List.getElem?_map] at hdk
        obtain ⟨x, hx, rfl⟩ := Option.map_eq_some_iff.mp hdk
        have hgx : cs.getD k 0 = x := by rw [List.getD_eq_getElem?_getD, hx]; rfl
        rw [hgx]
        refine g_ev (g_toV (g_ifE (K := K) (et_of (K := K) (g_op (g_vi (n := x) rfl) (g_op g_int g_int (rg_I (C := CPow) (g := fun i j => i ^ j.toNat) ⟨by decide, by decide, by decide⟩)) rg_ge)) (fun hb => ?_) (fun hb => ?_)))
        · have hb : (10 : Int) ^ 18 ≤ x := of_decide_eq_true hb
          rw [if_pos hb]
          exact g_vi rfl
        · have hb : ¬ (10 : Int) ^ 18 ≤ x := of_decide_eq_false hb
          rw [if_neg hb]
          exact g_int
      show tSeq _ _ _ _ (upd (upd H2 g0 (.lst [])) m (.dK (mdk c g0 0)))
      unfold tSeq sDPut
      dsimp only
      refine hlist rfl ee _ (Ex.refl _) _ fun g H4 gn e4 hg4 => ?_
      have hm4 := e4 _ _ (show (upd (upd H2 g0 (.lst [])) m (.dK (mdk c g0 0))) m = _ from upd_same)
      have hc4 := e4 _ _ hcc
      refine ⟨.ref m, rfl, m, _, rfl, DPut.k (k := Sum.inr ("great" : Str)) hm4 (by show 3 < sizeLine; decide), ?_⟩
      have hgm : m ≠ g := fun z => by rw [← z, upd_same] at gn; cases gn
      have gH : H g = none := fresh_back ee gn
      have hput : putK (mdk c g0 0) (Sum.inr ("great" : Str)) (.ref g) = mdk c g 0 := rfl
      rw [hput]
      refine s_ret (ev_var (v := .ref m) rfl) fun H6 e6 => ?_
      have hcg : c ≠ g := fun z => by rw [← z, hcc] at gn; cases gn
      have hm6 : H6 m = some (.dK (mdk c g 0)) := e6 _ _ upd_same
      have hg6 : H6 g = some (.lst (given (cs.map V.int).length (fun _ => true) fun k => .int (if (10 : Int) ^ 18 ≤ cs.getD k 0 then cs.getD k 0 else 0))) := e6 _ _ (by rw [upd_ne hgm.symm]; exact hg4)
      have hc6 : H6 c = some (.lst (ds.map V.int)) := e6 _ _ (by rw [upd_ne hcm]; exact hc4)
      have eH6 : Ex H H6 := (Ex.mut (ee.trans e4) m0).trans e6
      refine q m c g (cutH m g H6) H6 (fun a o ha => ?_) ⟨if_pos (.inl rfl), if_pos (.inr rfl), hgm, cut_ex, ⟨0, Nat.le_refl 0, hm6⟩, ⟨ds, hdl, by rw [cut_at hcm hcg]; exact hc6⟩, ⟨((List.range (cs.map V.int).length).filter fun _ => true).map fun k => if (10 : Int) ^ 18 ≤ cs.getD k 0 then cs.getD k 0 else 0, ?_⟩⟩
      · have h1 : a ≠ m := fun z => by rw [z, m0] at ha; cases ha
        have h2 : a ≠ g := fun z => by rw [z, gH] at ha; cases ha
        rw [cut_at h1 h2]
        exact eH6 _ _ ha
      · rw [hg6]
        unfold given
        rw [List.map_map]
        rfl
end
def spOf (K : PySem.W.Frag) : Sp := fun vs H Q _ => ∃ (m c g l : Addr) (b : Nat) (H0 : Hp) (xs : List V), vs = [.ref m, .ref l] ∧ Wd m c g b H0 H ∧ b ≤ 1000000 ∧ SqL K H0 l xs ∧ 0 < xs.length ∧ xs.length ≤ 100000 ∧ ∀ (i : Nat) (y : V) H2, xs[i]? = some y → Wd m c g (b + 1) H0 H2 → Q y H2
/-- an order of 0 .. n - 1 -/
def spOrder : Sp := fun vs H Q _ => ∃ (m c g : Addr) (b n : Nat) (H0 : Hp), vs = [.ref m, nv n] ∧ Wd m c g b H0 H ∧ b + n ≤ 1000000 ∧ n ≤ 1000 ∧ ∀ p row H1 H2, row.Perm (List.range n) → Ex H0 H1 → H1 p = some (.lst (nl row)) → Wd m c g (b + n) H1 H2 → Q (.ref p) H2
theorem nl_erase : ∀ (l : List Nat) (i : Nat), (nl l).eraseIdx i = nl (l.eraseIdx i)
  | [], _ => rfl
  | _ :: _, 0 => rfl
  | x :: l, i + 1 => congrArg (nv x :: ·) (nl_erase l i)
theorem seqIx {i n : Nat} (h : i < n) : seqIndex? (i : Int) n = some i := by
  unfold seqIndex?
  rw [if_neg (show ¬ ((i : Int) < 0) by omega)]
  have : (decide (0 ≤ (i : Int)) && decide ((i : Int) < (n : Int))) = true := by
    rw [Bool.and_eq_true]
    exact ⟨decide_eq_true (by omega), decide_eq_true (by omega)⟩
  simp only [this, if_true, Int.toNat_natCast]
theorem perm_pop {α : Type} {l a : List α} {k : Nat} {x : α} (h : l[k]? = some x) : (l.eraseIdx k ++ (a ++ [x])).Perm (l ++ a) := by
  have hk := (List.getElem?_eq_some_iff.mp h).1
  have hx : l[k] = x := by
    rw [List.getElem?_eq_getElem hk] at h
    exact Option.some.inj h
  have e1 : l = l.take k ++ (x :: l.drop (k + 1)) := by
    rw [← hx, ← List.drop_eq_getElem_cons hk, List.take_append_drop]
  have e2 : l.eraseIdx k = l.take k ++ l.drop (k + 1) := List.eraseIdx_eq_take_drop_succ ..
  rw [e2]
  have p1 : (l.take k ++ l.drop (k + 1) ++ (a ++ [x])).Perm (x :: (l.take k ++ l.drop (k + 1) ++ a)) := by
    rw [← List.append_assoc]
    exact List.perm_append_singleton x _
  refine p1.trans ?_
  have p2 : (x :: (l.take k ++ l.drop (k + 1) ++ a)).Perm ((l.take k ++ (x :: l.drop (k + 1))) ++ a) := by
    rw [← List.cons_append]
    exact List.Perm.append_right a List.perm_middle.symm
  rw [← e1] at p2
  exact p2
section
variable {K : PySem.W.Frag} {P : Program} {w : World} {mg : Str → Option Value} {base : Heap}
theorem sc_law_of : FnScope ["_law_m", "_law_some"] ["_law_m", "_law_some"] (defScope (top 42)) := ⟨rfl, rfl, rfl, by decide +kernel, rfl, by decide +kernel, by decide +kernel⟩
theorem kn_law_of (T : Txt K mg) (G_law_draw : Kn P w K mg base CX0 2 "_law_draw" ["_law_m", "_law_limit"] spDraw) : Kn P w K mg base CX0 3 "_law_of" ["_law_m", "_law_some"] (spOf K) := by
  obtain ⟨f, fd, F, hm⟩ := (T.df 31 (p := (42, "_law_of")) rfl)
  refine kn_ok F hm sc_law_of (fun _ _ _ _ _ _ us hl => match us, hl with | [_, _], _ => rfl) (fun vs H Q E h => ?_) (fun cdv A outer s H vs Q E hr h => ?_)
  · obtain ⟨m, c, g, l, b, H0, xs, rfl, _⟩ := h
    rfl
  · obtain ⟨m, c, g, l, b, H0, xs, rfl, W, hb, hl, h0, h1, q⟩ := h
    refine ⟨_, (pss_one (ps_ret (pe_ix (ixK_list (K := K) (by rfl)) (pv 1) (pe_kn G_law_draw (hr.mono (by decide)) (by rfl) pass0 (pa_cons (pv 0) (pa_cons (pe_callB (cK_len (K := K) (by rfl)) (by rfl) T.len bt_len (pa_cons (pv 1) pa_nil)) pa_nil))) (fun _ _ => rfl)))), ?_⟩
    refine ⟨.ref l, rfl, .ref m, rfl, .ref l, rfl, l, xs, rfl, .inl (ex_l W.ex hl), ?_⟩
    refine ⟨m, c, g, b, xs.length, H0, rfl, h0, h1, hb, W, fun r H2 hr2 W2 => ?_⟩
    obtain ⟨y, hy⟩ : ∃ y, xs[r]? = some y := ⟨_, List.getElem?_eq_getElem hr2⟩
    exact ⟨l, xs, (r : Int), y, rfl, rfl, ex_l W2.ex hl, atI_n hy, q r y H2 hy W2⟩
theorem sc_law_order : FnScope ["_law_m", "_law_many", "_law_left", "_law_turn"] ["_law_m", "_law_many"] (defScope (top 44)) := ⟨rfl, rfl, rfl, by decide +kernel, rfl, by decide +kernel, by decide +kernel⟩
theorem kn_law_order (T : Txt K mg) (G_law_draw : Kn P w K mg base CX0 2 "_law_draw" ["_law_m", "_law_limit"] spDraw) : Kn P w K mg base CX0 3 "_law_order" ["_law_m", "_law_many"] spOrder := by
  obtain ⟨f, fd, F, hm⟩ := (T.df 33 (p := (44, "_law_order")) rfl)
  refine kn_ok F hm sc_law_order (fun _ _ _ _ _ _ us hl => match us, hl with | [_, _], _ => rfl) (fun vs H Q E h => ?_) (fun cdv A outer s H vs Q E hr h => ?_)
  · obtain ⟨m, c, g, b, n, H0, rfl, _⟩ := h
    rfl
  · obtain ⟨m, c, g, b, n, H0, rfl, W, hb, hn, q⟩ := h
    refine ⟨_, (pss_cons (ps_set (i := 2) sc_law_order.nd rfl (Or.inr rfl) (pe_listRg rfl (by rfl) T.list (prg_1 (by rfl) T.range (pv 1))))
  (pss_one (ps_ret (pe_lc (own := [("_law_turn", 3)]) (g := (gName 3)) (by rfl) sc_law_order.nd (pi_range1 rfl T.range (pa_cons (pv 1) pa_nil)) (blkOk_by (by kernel_rfl)) (fun _ _ _ _ _ => (pg_name (i := 3) sc_law_order.nd rfl (by first | exact Or.inl rfl | exact Or.inr rfl))) (fun _ _ _ _ _ => pts_nil) (fun _ _ _ _ _ => (pe_bmK (K := K) (by rfl) PySem.F.plainAttrs_list PySem.F.slot_list_pop PySem.F.type_list_pop mt_popAt (pv 2) (pa_cons (pe_kn G_law_draw (hr.mono (by decide)) (by rfl) pass0 (pa_cons (pv 0) (pa_cons (pe_callB (cK_len (K := K) (by rfl)) (by rfl) T.len bt_len (pa_cons (pv 2) pa_nil)) pa_nil))) pa_nil))))))), ?_⟩
    refine ⟨nv n, rfl, (n : Int), rfl, RgOk.of_le (by omega) (by omega) (by omega) (by omega), fun lf hlf => ?_⟩
    have hr0 : rgV 0 (n : Int) = nl (List.range n) := by
      unfold rgV nl
      rw [Int.sub_zero, Int.toNat_natCast]
      refine List.map_congr_left fun i _ => ?_
      show V.int (0 + (i : Int)) = nv i
      rw [Int.zero_add]
      rfl
    rw [hr0]
    have lm : lf ≠ m := fun z => by obtain ⟨_, _, h⟩ := W.hm; rw [← z, hlf] at h; cases h
    have lg : lf ≠ g := fun z => by obtain ⟨_, h⟩ := W.hg; rw [← z, hlf] at h; cases h
    have l0 : H0 lf = none := fresh_back W.ex hlf
    have W1 : Wd m c g b H0 (upd H lf (.lst (nl (List.range n)))) := W.step (Ex.new hlf)
    have hl1 : (upd H lf (.lst (nl (List.range n)))) lf = some (.lst (nl (List.range n))) := upd_same
    refine ⟨nv n, rfl, (n : Int), rfl, by omega, by omega, fun Dl hD => ?_⟩
    have Dl' : lf ≠ Dl := fun z => by rw [← z, hl1] at hD; cases hD
    have Dm : Dl ≠ m := fun z => by obtain ⟨_, _, h⟩ := W1.hm; rw [← z, hD] at h; cases h
    have Dg : Dl ≠ g := fun z => by obtain ⟨_, h⟩ := W1.hg; rw [← z, hD] at h; cases h
    have D0 : H0 Dl = none := fresh_back W1.ex hD
    rw [Int.toNat_natCast]
    refine lc_range (lo := 0) (n := n) (fun i G => ∃ lf' acc : List Nat, G lf = some (.lst (nl lf')) ∧ G Dl = some (.lst (nl acc)) ∧ (lf' ++ acc).Perm (List.range n) ∧ lf'.length = n - i ∧ i ≤ n ∧ Wd m c g (b + i) H0 G)
      ⟨List.range n, [], by rw [upd_ne Dl']; exact hl1, upd_same, by rw [List.append_nil], by simp, Nat.zero_le _, W1.step (Ex.new hD)⟩ (fun i G hi hP => ?_) (fun G hP => ?_)
    · obtain ⟨lf', acc, h1, h2, hperm, hlen, _, WG⟩ := hP
      refine ⟨rfl, ?_⟩
      show tBM K "list" rPopAt (tVar 2) _ _ G _
      refine ⟨.ref lf, rfl, .inl ⟨rfl, _, sq_of h1⟩, .ref m, rfl, .ref lf, rfl, lf, nl lf', rfl, .inl (sq_of h1), ?_⟩
      rw [nl_len]
      refine ⟨m, c, g, b + i, lf'.length, cutH m g G, rfl, by omega, by omega, by omega, WG.full, fun r G2 hr2 W2 => ?_⟩
      have hlf2 : G2 lf = some (.lst (nl lf')) := W2.ex _ _ (by rw [cut_at lm lg]; exact h1)
      have hD2 : G2 Dl = some (.lst (nl acc)) := W2.ex _ _ (by rw [cut_at Dm Dg]; exact h2)
      obtain ⟨x, hx⟩ : ∃ x, lf'[r]? = some x := ⟨_, List.getElem?_eq_getElem hr2⟩
      refine ⟨lf, nl lf', (r : Int), r, nv x, rfl, rfl, hlf2, by omega, by omega, by rw [nl_len]; exact seqIx hr2, nl_get hx, ?_⟩
      have hacc : acc.length ≤ n := by
        have := hperm.length_eq
        rw [List.length_append, List.length_range] at this
        omega
      refine ⟨nl acc, by rw [upd_ne (Ne.symm Dl')]; exact hD2, sz_lt (by rw [nl_len]; omega), lf'.eraseIdx r, acc ++ [x], ?_, ?_, (perm_pop hx).trans hperm, ?_, by omega, ?_⟩
      · rw [upd_ne Dl', upd_same]
        exact congrArg (fun z => some (HO.lst z)) (nl_erase lf' r)
      · rw [upd_same, nl_app]
        rfl
      · rw [List.length_eraseIdx, if_pos hr2]
        omega
      · exact ((W2.imp WG.exc W.hc).mut l0 lm lg).mut D0 Dm Dg
    · obtain ⟨lf', acc, h1, h2, hperm, hlen, _, WG⟩ := hP
      have he : lf' = [] := List.length_eq_zero_iff.mp (by omega)
      subst he
      exact q Dl acc (cutH m g G) G hperm WG.exc (by rw [cut_at Dm Dg]; exact h2) WG.full
end
end Nk
/-! ## M5: nets renumbered, paired, bent stay maps -/
namespace Nk
open PySem PySem.Spec PyProof.Rows L2 Evl

theorem ap_mem {n : Nat} {s : Net} (F : Form n s) {c : Nat} (hc : c < 3) : ∃ ch ∈ s, ∀ x, ap s c x = ch.getD x 0 := by
  obtain ⟨ch, _, hg, _, hm⟩ := F.get hc
  exact ⟨ch, hm, fun x => by unfold ap; rw [hg]⟩
theorem renum_ap {n : Nat} {s : Net} (F : Form n s) {row : List Nat} {c i z : Nat} (hc : c < 3) (hi : row[i]? = some z) : ap (renum s row) c i = row.idxOf (ap s c z) := by
  obtain ⟨ch, hch, hg, hl, hm⟩ := F.get hc
  unfold ap renum
  rw [List.getD_eq_getElem?_getD (l := s.map _), List.getElem?_map, hch]
  show (row.map fun f => row.idxOf (ch.getD f 0)).getD i 0 = _
  rw [List.getD_eq_getElem?_getD, List.getElem?_map, hi, hg]
  rfl
theorem row_at {row : List Nat} {x : Nat} (h : x ∈ row) : row[row.idxOf x]? = some x := by
  have h1 := List.idxOf_lt_length_iff.mpr h
  rw [List.getElem?_eq_getElem h1, List.getElem_idxOf]
theorem idx_of {row : List Nat} (nd : row.Nodup) {i z : Nat} (h : row[i]? = some z) : row.idxOf z = i := by
  obtain ⟨h1, h2⟩ := List.getElem?_eq_some_iff.mp h
  rw [← h2]
  exact List.Nodup.idxOf_getElem nd i h1
theorem idx_inj {row : List Nat} {x y : Nat} (hx : x ∈ row) (hy : y ∈ row) (h : row.idxOf x = row.idxOf y) : x = y := by
  have h1 := row_at hx
  rw [h, row_at hy] at h1
  exact (Option.some.inj h1).symm
/-- a form told by its changes alone -/
theorem back_of {n : Nat} {s : Net} (F : Form n s) (h : ∀ c < 3, ∀ z < n, ap s c (ap s c z) = z) : Back n s := ⟨F, fun ch hc z hz => by
  obtain ⟨i, hi⟩ := List.mem_iff_getElem?.mp hc
  have h3 : i < 3 := by
    have := (List.getElem?_eq_some_iff.mp hi).1
    rw [F.three] at this
    exact this
  have hg : s.getD i [] = ch := by rw [List.getD_eq_getElem?_getD, hi]; rfl
  have := h i h3 z hz
  unfold ap at this
  rw [hg] at this
  exact this⟩
theorem still_of {n : Nat} {s : Net} (F : Form n s) (h : ∀ c < 3, ∀ z < n, ap s c z ≠ z) : ∀ ch ∈ s, ∀ f < n, ch.getD f 0 ≠ f := fun ch hc f hf => by
  obtain ⟨i, hi⟩ := List.mem_iff_getElem?.mp hc
  have h3 : i < 3 := by
    have := (List.getElem?_eq_some_iff.mp hi).1
    rw [F.three] at this
    exact this
  have hg : s.getD i [] = ch := by rw [List.getD_eq_getElem?_getD, hi]; rfl
  have := h i h3 f hf
  unfold ap at this
  rw [hg] at this
  exact this
section
variable {n : Nat} {s : Net}
theorem Good.apInv (G : Good n s) {c z : Nat} (hc : c < 3) (hz : z < n) : ap s c (ap s c z) = z := by
  obtain ⟨ch, hm, he⟩ := ap_mem G.toForm hc
  rw [he, he]
  exact G.inv ch hm z hz
theorem Good.apNe (G : Good n s) {c z : Nat} (hc : c < 3) (hz : z < n) : ap s c z ≠ z := by
  obtain ⟨ch, hm, he⟩ := ap_mem G.toForm hc
  rw [he]
  exact G.still ch hm z hz
theorem good_of (F : Form n s) (h4 : 4 ≤ n) (hm : n ≤ 960) (inv : ∀ c < 3, ∀ z < n, ap s c (ap s c z) = z) (ne : ∀ c < 3, ∀ z < n, ap s c z ≠ z) (sq : ∀ f < n, ap s 2 (ap s 0 f) = ap s 0 (ap s 2 f)) (apt : ∀ f < n, ap s 2 (ap s 0 f) ≠ f) : Good n s :=
  { toBack := back_of F inv, four := h4, most := hm, still := still_of F ne, square := sq, apart := apt }
theorem Good.four_of (G : Good n s) {row : List Nat} (nd : row.Nodup) (lt : ∀ z ∈ row, z < n) (cl : ∀ z ∈ row, ∀ c < 3, ap s c z ∈ row) {z : Nat} (hz : z ∈ row) : 4 ≤ row.length := by
  have hzn := lt z hz
  have a0 := cl z hz 0 (by omega)
  have a2 := cl z hz 2 (by omega)
  have a02 := cl _ a0 2 (by omega)
  have n0 := lt _ a0
  have n2 := lt _ a2
  have h : [z, ap s 0 z, ap s 2 z, ap s 2 (ap s 0 z)].Nodup := by
    have e1 : z ≠ ap s 0 z := (G.apNe (by omega) hzn).symm
    have e2 : z ≠ ap s 2 z := (G.apNe (by omega) hzn).symm
    have e3 : z ≠ ap s 2 (ap s 0 z) := (G.apart z hzn).symm
    have e4 : ap s 0 z ≠ ap s 2 z := fun e => by
      have := G.apInv (c := 2) (by omega) hzn
      rw [← e] at this
      exact G.apart z hzn this
    have e5 : ap s 0 z ≠ ap s 2 (ap s 0 z) := (G.apNe (by omega) n0).symm
    have e6 : ap s 2 z ≠ ap s 2 (ap s 0 z) := fun e => by
      have h1 := G.apInv (c := 2) (by omega) hzn
      rw [e, G.apInv (c := 2) (by omega) n0] at h1
      exact e1 h1.symm
    simp [e1, e2, e3, e4, e5, e6]
  have := List.Nodup.length_le_of_subset h (l₂ := row) (fun x hx => by
    have hx : x = z ∨ x = ap s 0 z ∨ x = ap s 2 z ∨ x = ap s 2 (ap s 0 z) := by simpa using hx
    rcases hx with rfl | rfl | rfl | rfl
    · exact hz
    · exact a0
    · exact a2
    · exact a02)
  simpa using this
theorem cl_ap (F : Form n s) {row : List Nat} (cl : ∀ z ∈ row, ∀ ch ∈ s, ch.getD z 0 ∈ row) : ∀ z ∈ row, ∀ c < 3, ap s c z ∈ row := fun z hz c hc => by
  obtain ⟨ch, hm, he⟩ := ap_mem F hc
  rw [he]
  exact cl z hz ch hm
/-- a map read along a closed row is a map -/
theorem good_renum (G : Good n s) {row : List Nat} (nd : row.Nodup) (lt : ∀ z ∈ row, z < n) (cl : ∀ z ∈ row, ∀ ch ∈ s, ch.getD z 0 ∈ row) (hne : row ≠ []) : Good row.length (renum s row) := by
  have F := G.toForm
  have ca := cl_ap F cl
  have at' : ∀ i < row.length, ∃ z, row[i]? = some z ∧ z ∈ row ∧ z < n := fun i hi => ⟨row[i], List.getElem?_eq_getElem hi, List.getElem_mem hi, lt _ (List.getElem_mem hi)⟩
  have step : ∀ {i z c : Nat}, c < 3 → row[i]? = some z → ap (renum s row) c i = row.idxOf (ap s c z) := fun hc h => renum_ap F hc h
  obtain ⟨z0, hz0⟩ := List.exists_mem_of_ne_nil row hne
  refine good_of (renum_form F cl) (G.four_of nd lt ca hz0) (Nat.le_trans (nodup_le nd lt) G.most) (fun c hc i hi => ?_) (fun c hc i hi => ?_) (fun i hi => ?_) (fun i hi => ?_)
  · obtain ⟨z, hz, hm, hzn⟩ := at' i hi
    rw [step hc hz, step hc (row_at (ca z hm c hc)), G.apInv hc hzn]
    exact idx_of nd hz
  · obtain ⟨z, hz, hm, hzn⟩ := at' i hi
    rw [step hc hz]
    intro e
    rw [← idx_of nd hz] at e
    exact G.apNe hc hzn (idx_inj (ca z hm c hc) hm e)
  · obtain ⟨z, hz, hm, hzn⟩ := at' i hi
    rw [step (by omega) hz, step (by omega) hz, step (by omega) (row_at (ca z hm 0 (by omega))), step (by omega) (row_at (ca z hm 2 (by omega))), G.square z hzn]
  · obtain ⟨z, hz, hm, hzn⟩ := at' i hi
    rw [step (by omega) hz, step (by omega) (row_at (ca z hm 0 (by omega)))]
    intro e
    rw [← idx_of nd hz] at e
    exact G.apart z hzn (idx_inj (ca _ (ca z hm 0 (by omega)) 2 (by omega)) hm e)
/-- an order of all flags -/
theorem perm_row {row : List Nat} (F : Form n s) (h : row.Perm (List.range n)) : row.Nodup ∧ (∀ z ∈ row, z < n) ∧ (∀ z ∈ row, ∀ ch ∈ s, ch.getD z 0 ∈ row) ∧ row.length = n := by
  have mem : ∀ z, z ∈ row ↔ z < n := fun z => by rw [h.mem_iff, List.mem_range]
  refine ⟨h.nodup_iff.mpr List.nodup_range, fun z hz => (mem z).mp hz, fun z hz ch hc => (mem _).mpr (F.step ((mem z).mp hz) ch hc), by rw [h.length_eq, List.length_range]⟩
theorem good_order (G : Good n s) {row : List Nat} (h : row.Perm (List.range n)) : Good n (renum s row) := by
  obtain ⟨h1, h2, h3, h4⟩ := perm_row G.toForm h
  have := good_renum G h1 h2 h3 (fun e => by rw [e] at h4; have := G.four; simp at h4; omega)
  rwa [h4] at this
end
/-! ### paired -/
def ends (n : Nat) : List Nat := (List.range n).map fun i => if i % 2 = 0 then i + 1 else i - 1
def sides (n : Nat) : List Nat := (List.range n).map fun i => if i % 4 < 2 then i + 2 else i - 2
def paired (ps : List Nat) : Net := [ends ps.length, ps, sides ps.length]
theorem ends_get {n i : Nat} (h : i < n) : (ends n).getD i 0 = if i % 2 = 0 then i + 1 else i - 1 := by
  unfold ends
  rw [List.getD_eq_getElem?_getD, List.getElem?_map, List.getElem?_range h]
  rfl
theorem sides_get {n i : Nat} (h : i < n) : (sides n).getD i 0 = if i % 4 < 2 then i + 2 else i - 2 := by
  unfold sides
  rw [List.getD_eq_getElem?_getD, List.getElem?_map, List.getElem?_range h]
  rfl
theorem good_paired {n k : Nat} {ps : List Nat} (hl : ps.length = n) (hn : n = 4 * k) (hk : 0 < k) (hm : n ≤ 960) (lt : ∀ z < n, ps.getD z 0 < n) (inv : ∀ z < n, ps.getD (ps.getD z 0) 0 = z) (ne : ∀ z < n, ps.getD z 0 ≠ z) : Good n (paired ps) := by
  subst hl
  have a0 : ∀ x, ap (paired ps) 0 x = (ends ps.length).getD x 0 := fun x => rfl
  have a1 : ∀ x, ap (paired ps) 1 x = ps.getD x 0 := fun x => rfl
  have a2 : ∀ x, ap (paired ps) 2 x = (sides ps.length).getD x 0 := fun x => rfl
  have l0 : ∀ x < ps.length, (if x % 2 = 0 then x + 1 else x - 1) < ps.length := fun x hx => by split <;> omega
  have l2 : ∀ x < ps.length, (if x % 4 < 2 then x + 2 else x - 2) < ps.length := fun x hx => by split <;> omega
  have F : Form ps.length (paired ps) := by
    refine ⟨rfl, fun r hr => ?_, fun r hr x hx => ?_⟩
    · have hr : r = ends ps.length ∨ r = ps ∨ r = sides ps.length := by simpa [paired] using hr
      rcases hr with rfl | rfl | rfl
      · simp [ends]
      · rfl
      · simp [sides]
    · have hr : r = ends ps.length ∨ r = ps ∨ r = sides ps.length := by simpa [paired] using hr
      rcases hr with rfl | rfl | rfl
      · obtain ⟨i, hi, rfl⟩ := List.mem_map.mp hx
        exact l0 i (List.mem_range.mp hi)
      · obtain ⟨i, hi⟩ := List.mem_iff_getElem?.mp hx
        have hil := (List.getElem?_eq_some_iff.mp hi).1
        have := lt i hil
        rwa [getD_of hi] at this
      · obtain ⟨i, hi, rfl⟩ := List.mem_map.mp hx
        exact l2 i (List.mem_range.mp hi)
  refine good_of F (by omega) hm (fun c hc z hz => ?_) (fun c hc z hz => ?_) (fun f hf => ?_) (fun f hf => ?_)
  · have : c = 0 ∨ c = 1 ∨ c = 2 := by omega
    rcases this with rfl | rfl | rfl
    · rw [a0, a0, ends_get hz, ends_get (l0 z hz)]
      split <;> split <;> omega
    · rw [a1, a1]
      exact inv z hz
    · rw [a2, a2, sides_get hz, sides_get (l2 z hz)]
      split <;> split <;> omega
  · have : c = 0 ∨ c = 1 ∨ c = 2 := by omega
    rcases this with rfl | rfl | rfl
    · rw [a0, ends_get hz]
      split <;> omega
    · rw [a1]
      exact ne z hz
    · rw [a2, sides_get hz]
      split <;> omega
  · rw [a0 f, a2 f, a2, a0, ends_get hf, sides_get hf, sides_get (l0 f hf), ends_get (l2 f hf)]
    split <;> split <;> split <;> split <;> omega
  · rw [a0, a2, ends_get hf, sides_get (l0 f hf)]
    split <;> split <;> omega
end Nk
/-! ## D3: _law_paired, _law_net, _law_joined -/
namespace Nk
open PySem PySem.Spec PyProof.Rows L2 Evl

/-- pairing under way: what is left, the partners so far -/
structure Pair (n i : Nat) (lf pl : List Nat) : Prop where
  nd : lf.Nodup
  lt : ∀ x ∈ lf, x < n
  ll : lf.length + 2 * i = n
  pn : pl.length = n
  ok : ∀ x < n, x ∉ lf → pl.getD x 0 < n ∧ pl.getD x 0 ∉ lf ∧ pl.getD (pl.getD x 0) 0 = x ∧ pl.getD x 0 ≠ x
theorem getD_set {l : List Nat} {i j v : Nat} (h : i < l.length) : (l.set i v).getD j 0 = if j = i then v else l.getD j 0 := by
  rw [List.getD_eq_getElem?_getD, List.getElem?_set]
  by_cases e : j = i
  · subst e
    rw [if_pos rfl, if_pos h, if_pos rfl]
    rfl
  · rw [if_neg (fun z => e z.symm), if_neg e, List.getD_eq_getElem?_getD]
theorem Pair.next {n i : Nat} {one r two : Nat} {rest pl : List Nat} (P : Pair n i (one :: rest) pl) (h : rest[r]? = some two) : Pair n (i + 1) (rest.eraseIdx r) ((pl.set one two).set two one) := by
  have hr := (List.getElem?_eq_some_iff.mp h).1
  have hnd := List.nodup_cons.mp P.nd
  have htm : two ∈ rest := List.mem_of_getElem? h
  have hne : one ≠ two := fun e => hnd.1 (e ▸ htm)
  have h1 : one < n := P.lt _ List.mem_cons_self
  have h2 : two < n := P.lt _ (List.mem_cons_of_mem _ htm)
  have hl : rest.length + 1 + 2 * i = n := P.ll
  have mem : ∀ x, x ∈ rest.eraseIdx r ↔ x ∈ rest ∧ x ≠ two := fun x => by
    have p := perm_pop (l := rest) (a := []) (k := r) (x := two) h
    rw [List.append_nil, List.nil_append] at p
    have nd2 : (rest.eraseIdx r ++ [two]).Nodup := p.nodup_iff.mpr hnd.2
    have m := p.mem_iff (a := x)
    rw [List.mem_append, List.mem_singleton] at m
    constructor
    · intro hx
      exact ⟨m.mp (.inl hx), fun e => (List.nodup_append.mp nd2).2.2 x hx two (by simp) e⟩
    · rintro ⟨hx, hn⟩
      exact (m.mpr hx).resolve_right hn
  have g1 : ∀ x, ((pl.set one two).set two one).getD x 0 = if x = two then one else if x = one then two else pl.getD x 0 := fun x => by
    rw [getD_set (by rw [List.length_set, P.pn]; exact h2)]
    by_cases e : x = two
    · rw [if_pos e, if_pos e]
    · rw [if_neg e, if_neg e, getD_set (by rw [P.pn]; exact h1)]
  have ndr : (rest.eraseIdx r).Nodup := hnd.2.sublist (List.eraseIdx_sublist rest r)
  refine ⟨ndr, fun x hx => P.lt x (List.mem_cons_of_mem _ ((mem x).mp hx).1), ?_, by rw [List.length_set, List.length_set]; exact P.pn, fun x hx hxm => ?_⟩
  · rw [List.length_eraseIdx, if_pos hr]
    omega
  · rw [g1, g1]
    by_cases e2 : x = two
    · rw [if_pos e2, if_neg (fun z => hne z), if_pos rfl]
      exact ⟨h1, fun z => hnd.1 ((mem one).mp z).1, e2.symm, fun z => hne (z.trans e2)⟩
    · rw [if_neg e2]
      by_cases e1 : x = one
      · rw [if_pos e1, if_pos rfl]
        exact ⟨h2, fun z => ((mem two).mp z).2 rfl, e1.symm, fun z => hne (e1.symm.trans z.symm)⟩
      · rw [if_neg e1]
        have hxo : x ∉ one :: rest := fun z => by
          rcases List.mem_cons.mp z with z | z
          · exact e1 z
          · exact hxm ((mem x).mpr ⟨z, e2⟩)
        obtain ⟨a, b, c, d⟩ := P.ok x hx hxo
        have n2 : pl.getD x 0 ≠ two := fun z => b (z ▸ List.mem_cons_of_mem _ htm)
        have n1 : pl.getD x 0 ≠ one := fun z => b (z ▸ List.mem_cons_self)
        rw [if_neg n2, if_neg n1]
        exact ⟨a, fun z => b (List.mem_cons_of_mem _ ((mem _).mp z).1), c, d⟩
theorem pair_start (n : Nat) : Pair n 0 (List.range n) (List.replicate n 0) := ⟨List.nodup_range, fun x hx => List.mem_range.mp hx, by simp, by simp, fun x hx hn => absurd (List.mem_range.mpr hx) hn⟩
theorem pair_done {n k : Nat} {lf pl : List Nat} (P : Pair n (n / 2) lf pl) (hn : n = 4 * k) (hk : 0 < k) (hm : n ≤ 960) : Good n (paired pl) := by
  have hl : lf = [] := List.length_eq_zero_iff.mp (by have := P.ll; omega)
  subst hl
  exact good_paired P.pn hn hk hm (fun z hz => (P.ok z hz (by simp)).1) (fun z hz => (P.ok z hz (by simp)).2.2.1) (fun z hz => (P.ok z hz (by simp)).2.2.2)

theorem Wd.cutT {m c g : Addr} {b : Nat} {H0 H : Hp} {K : PySem.W.Frag} {v : V} {d : PyData} (W : Wd m c g b H0 H) (h : Dp K H v d) (f : flatT d = true) : Dp K (cutH m g H) v d := by
  have ok : ∀ a o, H a = some o → (∀ kvs, o ≠ .dK kvs) → (∀ xs, o ≠ .lst xs) → cutH m g H a = some o := fun a o ha n1 n2 => by
    have h1 : a ≠ m := fun z => by
      obtain ⟨_, _, hh⟩ := W.hm
      rw [z, hh] at ha
      exact n1 _ (Option.some.inj ha).symm
    have h2 : a ≠ g := fun z => by
      obtain ⟨_, hh⟩ := W.hg
      rw [z, hh] at ha
      exact n2 _ (Option.some.inj ha).symm
    rw [cut_at h1 h2]
    exact ha
  exact Dp.tk h ⟨fun a xs q => ok a _ q (fun _ z => by cases z) (fun _ z => by cases z), fun a o xs q => ok a _ q (fun _ z => by cases z) (fun _ z => by cases z)⟩ f
def spPaired (K : PySem.W.Frag) : Sp := fun vs H Q _ => ∃ (v : V) (ps : List Nat), vs = [v] ∧ Dp K H v (encL ps) ∧ ps.length ≤ 1000 ∧ RetA K (.d (encNet (paired ps))) H Q
def spNet (K : PySem.W.Frag) : Sp := fun vs H Q _ => ∃ (m c g : Addr) (b most : Nat) (H0 : Hp), vs = [.ref m, nv most] ∧ Wd m c g b H0 H ∧ b + 100 ≤ 1000000 ∧ 0 < most ∧ most ≤ 10 ∧ ∀ v n s H1 H2, Ex H0 H1 → Wd m c g (b + 100) H1 H2 → Good n s → n ≤ 4 * most → Dp K H1 v (encNet s) → Q v H2
section
variable {K : PySem.W.Frag} {σ : L2.St} {H : Hp} {ta tb to ti tj : TE} {D : Ends} {tz : TS}
/-- xs[i], xs[j] = a, b -/
theorem s_set2 {l : Addr} {xs : List V} {i j : Nat} {v1 v2 : V} (hl : H l = some (.lst xs)) (ha : Ev ta σ H v1) (hb : Ev tb σ H v2) (ho : ∀ G, Ev to σ G (.ref l)) (hi : Ev ti σ H (.int (i : Int))) (hj : ∀ G, ExBut l H G → Ev tj σ G (.int (j : Int))) (h1 : i < xs.length) (h2 : j < xs.length)
    (k : ∀ H1, Ex H H1 → D.nx σ (upd H1 l (.lst ((xs.set i v1).set j v2)))) : tAsg (tTup (tCons ta (tCons tb tNil))) (gTup K 2 (gCons (gSub to ti rSetL) (gCons (gSub to tj rSetL) gNil))) D σ H := by
  unfold tAsg tTup
  refine ha H (Ex.refl H) _ fun H1 e1 => hb H1 e1 _ fun H2 e2 => ⟨sz_of (by show 2 ≤ 100000; omega), fun p hp => ?_⟩
  have e3 : Ex H (upd H2 p (.tup [v1, v2])) := (e1.trans e2).trans (Ex.new hp)
  refine ⟨p, [v1, v2], rfl, st_of upd_same, rfl, v1, [v2], rfl, ?_⟩
  refine (ho _) _ (Ex.refl _) _ fun H4 e4 => hi H4 (e3.trans e4) _ fun H5 e5 => ?_
  have e35 := (e3.trans e4).trans e5
  refine ⟨l, xs, (i : Int), i, rfl, rfl, e35 _ _ hl, ixN_nat h1, ?_⟩
  have eb : ExBut l H (upd H5 l (.lst (xs.set i v1))) := (ExBut.of e35).mut
  refine ⟨v2, [], rfl, ?_⟩
  refine (ho _) _ (Ex.refl _) _ fun H6 e6 => (hj H6 (eb.trans (ExBut.of e6))) H6 (Ex.refl H6) _ fun H7 e7 => ?_
  have h7 : H7 l = some (.lst (xs.set i v1)) := e7 _ _ (e6 _ _ upd_same)
  refine ⟨l, xs.set i v1, (j : Int), j, rfl, rfl, h7, ixN_nat (by rw [List.length_set]; exact h2), rfl, ?_⟩
  have := k (upd H7 l (.lst xs)) (fun a o h => by
    by_cases q : a = l
    · rw [q, hl] at h
      rw [q, upd_same, ← h]
    · rw [upd_ne q]
      exact e7 _ _ (e6 _ _ (by rw [upd_ne q]; exact e35 _ _ h)))
  have eu : upd (upd H7 l (.lst xs)) l (.lst ((xs.set i v1).set j v2)) = upd H7 l (.lst ((xs.set i v1).set j v2)) := by
    funext a
    by_cases q : a = l
    · rw [q, upd_same, upd_same]
    · rw [upd_ne q, upd_ne q, upd_ne q]
  rw [eu] at this
  exact this
theorem q_set2 {l : Addr} {xs : List V} {i j : Nat} {v1 v2 : V} (hl : H l = some (.lst xs)) (ha : Ev ta σ H v1) (hb : Ev tb σ H v2) (ho : ∀ G, Ev to σ G (.ref l)) (hi : Ev ti σ H (.int (i : Int))) (hj : ∀ G, ExBut l H G → Ev tj σ G (.int (j : Int))) (h1 : i < xs.length) (h2 : j < xs.length)
    (k : ∀ H1, Ex H H1 → tz D σ (upd H1 l (.lst ((xs.set i v1).set j v2)))) : tSeq (tAsg (tTup (tCons ta (tCons tb tNil))) (gTup K 2 (gCons (gSub to ti rSetL) (gCons (gSub to tj rSetL) gNil)))) tz D σ H := s_set2 (D := { D with nx := tz D }) hl ha hb ho hi hj h1 h2 k
theorem nl_set (l : List Nat) (i v : Nat) : (nl l).set i (nv v) = nl (l.set i v) := by unfold nl; rw [List.map_set]
variable {P : Program} {w : World} {mg : Str → Option Value} {base : Heap}
theorem g_ends {n : Nat} {te : TE} {f : Nat → Nat} {σ : L2.St} {vs : List Nat} {j : Nat} {ta : TA} (ha : EvGs K ta σ H [.d (.int n)]) (hn : n ≤ 1000) (hw : ∀ x, wipe ((wipe σ vs).set j (some x)) vs = wipe σ vs) (he : ∀ (i : Nat) H1, Ex H H1 → i < n → EvG K te ((wipe σ vs).set j (some (nv i))) H1 (.d (encN (f i)))) :
    EvG K (tCB (fun xs H Q => ∃ p ys, xs = [.ref p] ∧ ((SqL K H p ys ∧ ∀ l, H l = none → Q (.ref l) (upd H l (.tup ys))) ∨ (SqT K H p ys ∧ Q (.ref p) H))) (tCons (tLc (iRng1 ta) (gName j) tYes te vs) tNil)) σ H (.d (encR ((List.range n).map f))) := by
  refine g_is (g_tupOf (g_lcR1 (n := n) (fun _ => true) (fun i => encN (f i)) ha (by omega) hw (fun _ => rfl) (fun i H2 e2 hi => et_yes) (fun k H5 e5 hk _ => he k H5 e5 hk))) ?_
  rw [givenD_range]
  unfold encR
  rw [List.map_map]
  rfl
theorem sc_law_paired : FnScope ["_law_partners", "_law_many", "_law_ends", "_law_sides", "_law_n"] ["_law_partners"] (defScope (top 46)) := ⟨rfl, rfl, rfl, by decide +kernel, rfl, by decide +kernel, by decide +kernel⟩
theorem kn_law_paired (T : Txt K mg) : Kn P w K mg base CX0 1 "_law_paired" ["_law_partners"] (spPaired K) := by
  obtain ⟨f, fd, F, hm⟩ := (T.df 35 (p := (46, "_law_paired")) rfl)
  refine kn_ok F hm sc_law_paired (fun _ _ _ _ _ _ us hl => match us, hl with | [_], _ => rfl) (fun vs H Q E h => ?_) (fun cdv A outer s H vs Q E hr h => ?_)
  · obtain ⟨v, ps, rfl, _⟩ := h
    rfl
  · obtain ⟨v, ps, rfl, hd, hl, q⟩ := h
    refine ⟨_, (pss_cons (ps_set (i := 1) sc_law_paired.nd rfl (Or.inl rfl) (pe_callB (cK_len (K := K) (by rfl)) (by rfl) T.len bt_len (pa_cons (pv 0) pa_nil)))
  (pss_cons (ps_set (i := 2) sc_law_paired.nd rfl (Or.inl rfl) (pe_callTy (cK_tuple (K := K) (by rfl)) (by rfl) T.tuple bt_tuple (pa_cons (pe_lc (own := [("_law_n", 4)]) (g := (gName 4)) (by rfl) sc_law_paired.nd (pi_range1 rfl T.range (pa_cons (pv 1) pa_nil)) (blkOk_by (by kernel_rfl)) (fun _ _ _ _ _ => (pg_name (i := 4) sc_law_paired.nd rfl (by first | exact Or.inl rfl | exact Or.inr rfl))) (fun _ _ _ _ _ => pts_nil) (fun _ _ _ _ _ => (pe_ifExp (pt_cmpR op_eq (pe_op op_mod (pv 4) pe_int) pe_int (nomark _)) (pe_op op_add (pv 4) pe_int) (pe_op op_sub (pv 4) pe_int)))) pa_nil)))
  (pss_cons (ps_set (i := 3) sc_law_paired.nd rfl (Or.inl rfl) (pe_callTy (cK_tuple (K := K) (by rfl)) (by rfl) T.tuple bt_tuple (pa_cons (pe_lc (own := [("_law_n", 4)]) (g := (gName 4)) (by rfl) sc_law_paired.nd (pi_range1 rfl T.range (pa_cons (pv 1) pa_nil)) (blkOk_by (by kernel_rfl)) (fun _ _ _ _ _ => (pg_name (i := 4) sc_law_paired.nd rfl (by first | exact Or.inl rfl | exact Or.inr rfl))) (fun _ _ _ _ _ => pts_nil) (fun _ _ _ _ _ => (pe_ifExp (pt_cmpR op_lt (pe_op op_mod (pv 4) pe_int) pe_int (nomark _)) (pe_op op_add (pv 4) pe_int) (pe_op op_sub (pv 4) pe_int)))) pa_nil)))
  (pss_one (ps_ret (pe_tup (pa_cons (pv 2) (pa_cons (pe_callTy (cK_tuple (K := K) (by rfl)) (by rfl) T.tuple bt_tuple (pa_cons (pv 0) pa_nil)) (pa_cons (pv 3) pa_nil))))))))), ?_⟩
    refine asgI (n := ps.length) (g_is (g_lenL (ds := ps.map encN) (g_dv rfl hd)) (by rw [List.length_map])) fun H1 e1 => ?_
    refine asg (g_ends (f := fun i => if i % 2 = 0 then i + 1 else i - 1) (gs_cons (g_vn (n := ps.length) rfl) gs_nil) hl (fun x => rfl) (fun i G eG hi => ?_)) fun y H2 e2 hy => ?_
    · refine g_ifE (et_of (K := K) (g_op (g_op (g_vn (n := i) rfl) g_int (rg_mod (by omega))) g_int rg_eqI)) (fun hb => ?_) (fun hb => ?_)
      · have hb := of_decide_eq_true hb
        rw [if_pos (by omega)]
        exact g_is (g_op (g_vn (n := i) rfl) g_int rg_add) rfl
      · have hb := of_decide_eq_false hb
        have hz : ¬ i % 2 = 0 := by omega
        rw [if_neg hz]
        refine g_is (g_op (g_vn (n := i) rfl) g_int rg_sub) ?_
        unfold encN
        congr 2
        omega
    refine asg (g_ends (f := fun i => if i % 4 < 2 then i + 2 else i - 2) (gs_cons (g_vn (n := ps.length) rfl) gs_nil) hl (fun x => rfl) (fun i G eG hi => ?_)) fun z H3 e3 hz => ?_
    · refine g_ifE (et_of (K := K) (g_op (g_op (g_vn (n := i) rfl) g_int (rg_mod (by omega))) g_int rg_lt)) (fun hb => ?_) (fun hb => ?_)
      · have hb := of_decide_eq_true hb
        rw [if_pos (by omega)]
        exact g_is (g_op (g_vn (n := i) rfl) g_int rg_add) rfl
      · have hb := of_decide_eq_false hb
        have hz : ¬ i % 4 < 2 := by omega
        rw [if_neg hz]
        refine g_is (g_op (g_vn (n := i) rfl) g_int rg_sub) ?_
        unfold encN
        congr 2
        omega
    exact retA (K := K) (a := .d (encNet (paired ps))) (g_tup (ds := [encR (ends ps.length), encR ps, encR (sides ps.length)]) (gs_cons (g_dv (d := encR (ends ps.length)) rfl (Dp.mono hy e3)) (gs_cons (g_tupOf (ds := ps.map encN) (g_dv rfl (hd.mono ((e1.trans e2).trans e3)))) (gs_cons (g_dv (d := encR (sides ps.length)) rfl hz) gs_nil))) (by show 3 ≤ 100000; omega))
      (fun v H5 e5 hv => q v H5 (((e1.trans e2).trans e3).trans e5) hv) rfl
theorem bits0 : ∀ n : Nat, List.replicate n (0 : Nat) = (List.range n).map fun _ => 0 := fun n => by
  rw [List.map_const', List.length_range]
theorem sc_law_net : FnScope ["_law_m", "_law_most", "_law_many", "_law_left", "_law_partners", "_law_turn", "_law_one", "_law_two", "_law_n"] ["_law_m", "_law_most"] (defScope (top 47)) := ⟨rfl, rfl, rfl, by decide +kernel, rfl, by decide +kernel, by decide +kernel⟩
theorem kn_law_net (T : Txt K mg) (G_law_draw : Kn P w K mg base CX0 2 "_law_draw" ["_law_m", "_law_limit"] spDraw) (G_law_order : Kn P w K mg base CX0 3 "_law_order" ["_law_m", "_law_many"] spOrder) (G_law_numbered : Kn P w K mg base CX0 1 "_law_numbered" ["_law_net_here", "_law_order_here"] (spNum K))
    (G_law_paired : Kn P w K mg base CX0 1 "_law_paired" ["_law_partners"] (spPaired K)) : Kn P w K mg base CX0 4 "_law_net" ["_law_m", "_law_most"] (spNet K) := by
  obtain ⟨f, fd, F, hm⟩ := (T.df 36 (p := (47, "_law_net")) rfl)
  refine kn_ok F hm sc_law_net (fun _ _ _ _ _ _ us hl => match us, hl with | [_, _], _ => rfl) (fun vs H Q E h => ?_) (fun cdv A outer s H vs Q E hr h => ?_)
  · obtain ⟨m, c, g, b, most, H0, rfl, _⟩ := h
    rfl
  · obtain ⟨m, c, g, b, most, H0, rfl, W, hb, hm0, hm1, q⟩ := h
    refine ⟨_, (pss_cons (ps_set (i := 2) sc_law_net.nd rfl (Or.inl rfl) (pe_op op_mul pe_int (pe_op op_add pe_int (pe_kn G_law_draw (hr.mono (by decide)) (by rfl) pass0 (pa_cons (pv 0) (pa_cons (pv 1) pa_nil))))))
  (pss_cons (ps_par (i := 3) (j := 4) (by rfl) sc_law_net.nd rfl rfl (by decide) rfl rfl (pa_cons (pe_listRg rfl (by rfl) T.list (prg_1 (by rfl) T.range (pv 2))) (pa_cons (pe_lc (own := [("_law_n", 8)]) (g := (gName 8)) (by rfl) sc_law_net.nd (pi_range1 rfl T.range (pa_cons (pv 2) pa_nil)) (blkOk_by (by kernel_rfl)) (fun _ _ _ _ _ => (pg_name (i := 8) sc_law_net.nd rfl (by first | exact Or.inl rfl | exact Or.inr rfl))) (fun _ _ _ _ _ => pts_nil) (fun _ _ _ _ _ => pe_int)) pa_nil)) (by rfl))
  (pss_cons (ps_for PassesOwn.never rfl (pi_range1 rfl T.range (pa_cons (pe_op op_fdiv (pv 2) pe_int) pa_nil)) (pg_name (i := 5) sc_law_net.nd rfl (by first | exact Or.inl rfl | exact Or.inr rfl))
  (pss_cons (ps_set (i := 6) sc_law_net.nd rfl (Or.inl rfl) (pe_bmK (K := K) (by rfl) PySem.F.plainAttrs_list PySem.F.slot_list_pop PySem.F.type_list_pop mt_popAt (pv 3) (pa_cons pe_int pa_nil)))
  (pss_cons (ps_set (i := 7) sc_law_net.nd rfl (Or.inl rfl) (pe_bmK (K := K) (by rfl) PySem.F.plainAttrs_list PySem.F.slot_list_pop PySem.F.type_list_pop mt_popAt (pv 3) (pa_cons (pe_kn G_law_draw (hr.mono (by decide)) (by rfl) pass0 (pa_cons (pv 0) (pa_cons (pe_callB (cK_len (K := K) (by rfl)) (by rfl) T.len bt_len (pa_cons (pv 3) pa_nil)) pa_nil))) pa_nil)))
  (pss_one (ps_asg (pe_tup (pa_cons (pv 7) (pa_cons (pv 6) pa_nil))) (pg_tup rfl (pgs_cons (pg_sub (pv 4) (pv 6) set_list) (pgs_cons (pg_sub (pv 4) (pv 7) set_list) pgs_nil))))))))
  (pss_one (ps_ret (pe_kn G_law_numbered (hr.mono (by decide)) (by rfl) pass0 (pa_cons (pe_kn G_law_paired (hr.mono (by decide)) (by rfl) pass0 (pa_cons (pv 4) pa_nil)) (pa_cons (pe_kn G_law_order (hr.mono (by decide)) (by rfl) pass0 (pa_cons (pv 0) (pa_cons (pv 2) pa_nil))) pa_nil)))))))), ?_⟩
    refine ⟨.ref m, rfl, nv most, rfl, m, c, g, b, most, H0, rfl, hm0, by omega, by omega, W, fun r G1 hr1 W1 => ⟨1, (r : Int), rfl, rfl, 4, 1 + (r : Int), rfl, rfl, mul_l (by omega) (by omega), ?_⟩⟩
    obtain ⟨n, hn⟩ : ∃ n, n = 4 * (r + 1) := ⟨_, rfl⟩
    have en : (4 : Int) * (1 + (r : Int)) = (n : Int) := by omega
    show gName 2 (.int (4 * (1 + (r : Int)))) _ _ _
    rw [en]
    have hn2 : n ≤ 40 := by omega
    -- left, partners
    refine ⟨nv n, rfl, (n : Int), rfl, RgOk.of_le (by omega) (by omega) (by omega) (by omega), fun lf hlf => ?_⟩
    have hr0 : rgV 0 (n : Int) = nl (List.range n) := by
      unfold rgV nl
      rw [Int.sub_zero, Int.toNat_natCast]
      refine List.map_congr_left fun i _ => ?_
      show V.int (0 + (i : Int)) = nv i
      rw [Int.zero_add]
      rfl
    rw [hr0]
    have lm : lf ≠ m := fun z => by obtain ⟨_, _, h⟩ := W1.hm; rw [← z, hlf] at h; cases h
    have lg : lf ≠ g := fun z => by obtain ⟨_, h⟩ := W1.hg; rw [← z, hlf] at h; cases h
    have l0 : H0 lf = none := fresh_back W1.ex hlf
    have W2 : Wd m c g (b + 1) H0 (upd G1 lf (.lst (nl (List.range n)))) := W1.step (Ex.new hlf)
    refine (el_lcR1 (fun _ => true) (fun _ => .int 0) (n := (n : Int)) (ea_cons (ev_var rfl) ea_nil) (by omega) (fun x => rfl) (fun i H1 e1 hi => et_yes) (fun i H1 e1 hi _ => ev_c) : EvL _ _ (upd G1 lf (.lst (nl (List.range n)))) _) _ (Ex.refl _) _ fun pt G2 hpt e2 hp2 => ?_
    refine ⟨.ref lf, .ref pt, rfl, ?_⟩
    have W3 := W2.step e2
    have hlf2 := e2 _ _ (show (upd G1 lf (.lst (nl (List.range n)))) lf = _ from upd_same)
    have lp : lf ≠ pt := fun z => by rw [← z, upd_same] at hpt; cases hpt
    have p0 : H0 pt = none := fresh_back W2.ex hpt
    have pm : pt ≠ m := fun z => by obtain ⟨_, _, h⟩ := W2.hm; rw [← z, hpt] at h; cases h
    have pg : pt ≠ g := fun z => by obtain ⟨_, h⟩ := W2.hg; rw [← z, hpt] at h; cases h
    have hp2 : G2 pt = some (.lst (nl (List.replicate n 0))) := by
      rw [hp2, bits0]
      unfold given nl
      rw [List.map_map, Int.toNat_natCast]
      congr 2
      rw [List.filter_eq_self.mpr fun _ _ => rfl]
      rfl
    have ehalf : ∀ {G : Hp} {y5 y6 y7 y8 : Option V}, Ev (tOp (rI CDiv fun i j => .int (i / j)) (tVar 2) (tC (.int 2))) [some (.ref m), some (nv most), some (nv n), some (.ref lf), some (.ref pt), y5, y6, y7, y8] G (.int ((n / 2 : Nat) : Int)) := fun {G y5 y6 y7 y8} => by
      refine ev_is (ev_op (ev_var (v := nv n) rfl) ev_c (rv_I ⟨by omega, by omega⟩)) ?_
      show V.int ((n : Int) / 2) = _
      congr 1
    refine q_forR1 (n := ((n / 2 : Nat) : Int)) (ea_cons ehalf ea_nil) (by omega) (fun i τ G => ∃ (y5 y6 y7 : Option V) (lfl pl : List Nat), τ = [some (.ref m), some (nv most), some (nv n), some (.ref lf), some (.ref pt), y5, y6, y7, none] ∧ Wd m c g (b + 1 + i) H0 G ∧ G lf = some (.lst (nl lfl)) ∧ G pt = some (.lst (nl pl)) ∧ Pair n i lfl pl)
      (fun G3 e3 => ⟨none, none, none, List.range n, List.replicate n 0, rfl, W3.step e3, e3 _ _ hlf2, e3 _ _ hp2, pair_start n⟩) (fun i τ G hi hP => ?_) (fun τ G hP => ?_)
    · obtain ⟨y5, y6, y7, lfl, pl, rfl, WG, hl, hp, Pp⟩ := hP
      have hi2 : i < n / 2 := by omega
      obtain ⟨one, rest, rfl⟩ : ∃ one rest, lfl = one :: rest := by
        cases lfl with
        | nil => have := Pp.ll; simp at this; omega
        | cons x r => exact ⟨x, r, rfl⟩
      -- one = left.pop(0)
      refine ⟨.ref lf, rfl, .inl ⟨rfl, _, sq_of hl⟩, lf, nl (one :: rest), 0, 0, nv one, rfl, rfl, hl, by omega, by omega, seqIx (i := 0) (by rw [nl_len]; exact Nat.succ_pos _), rfl, ?_⟩
      have W4 : Wd m c g (b + 1 + i) H0 (upd G lf (.lst (nl rest))) := WG.mut l0 lm lg
      have hl4 : (upd G lf (.lst (nl rest))) lf = some (.lst (nl rest)) := upd_same
      have hp4 : (upd G lf (.lst (nl rest))) pt = some (.lst (nl pl)) := by rw [upd_ne (Ne.symm lp)]; exact hp
      have hlr : rest.length + 1 + 2 * i = n := Pp.ll
      -- two = left.pop(draw)
      show tBM K "list" rPopAt (tVar 3) _ _ (upd G lf (.lst (nl rest))) _
      refine ⟨.ref lf, rfl, .inl ⟨rfl, _, sq_of hl4⟩, .ref m, rfl, .ref lf, rfl, lf, nl rest, rfl, .inl (sq_of hl4), ?_⟩
      rw [nl_len]
      refine ⟨m, c, g, b + 1 + i, rest.length, cutH m g (upd G lf (.lst (nl rest))), rfl, by omega, by omega, by omega, W4.full, fun r' G5 hr5 W5 => ?_⟩
      have hl5 : G5 lf = some (.lst (nl rest)) := W5.ex _ _ (by rw [cut_at lm lg]; exact hl4)
      have hp5 : G5 pt = some (.lst (nl pl)) := W5.ex _ _ (by rw [cut_at pm pg]; exact hp4)
      obtain ⟨two, hx⟩ : ∃ x, rest[r']? = some x := ⟨_, List.getElem?_eq_getElem hr5⟩
      refine ⟨lf, nl rest, (r' : Int), r', nv two, rfl, rfl, hl5, by omega, by omega, by rw [nl_len]; exact seqIx hr5, nl_get hx, ?_⟩
      have W6 : Wd m c g (b + 1 + (i + 1)) H0 (upd G5 lf (.lst ((nl rest).eraseIdx r'))) := (W5.imp W4.exc W.hc).mut l0 lm lg
      have hp6 : (upd G5 lf (.lst ((nl rest).eraseIdx r'))) pt = some (.lst (nl pl)) := by rw [upd_ne (Ne.symm lp)]; exact hp5
      have h1 : one < pl.length := by rw [Pp.pn]; exact Pp.lt _ List.mem_cons_self
      have h2 : two < pl.length := by rw [Pp.pn]; exact Pp.lt _ (List.mem_cons_of_mem _ (List.mem_of_getElem? hx))
      refine s_set2 (K := K) (i := one) (j := two) (v1 := nv two) (v2 := nv one) hp6 (ev_var rfl) (ev_var rfl) (fun G => ev_var rfl) (ev_var rfl) (fun G _ => ev_var rfl) (by rw [nl_len]; exact h1) (by rw [nl_len]; exact h2) fun G7 e7 => ?_
      have W7 := (W6.step e7).mut (o := .lst (((nl pl).set one (nv two)).set two (nv one))) p0 pm pg
      refine ⟨_, _, _, rest.eraseIdx r', (pl.set one two).set two one, rfl, W7, ?_, ?_, Pp.next hx⟩
      · rw [upd_ne lp, e7 _ _ upd_same, nl_erase]
      · rw [upd_same, nl_set, nl_set]
    · obtain ⟨y5, y6, y7, lfl, pl, rfl, WG, hl, hp, Pp⟩ := hP
      rw [Int.toNat_natCast] at WG Pp
      have G0 := pair_done Pp hn (by omega) (by omega)
      have hpl : pl.length = n := Pp.pn
      have WF := WG.full
      have hpF : cutH m g G pt = some (.lst (nl pl)) := by rw [cut_at pm pg]; exact hp
      refine ⟨.ref pt, rfl, .ref pt, pl, rfl, dp_L (sq_of hp), by omega, fun v8 G8 e8 hv8 => ?_⟩
      have W8 := WG.step e8
      have hv8 : Dp K G8 v8 (encNet (paired pl)) := hv8
      have hvF : Dp K (cutH m g G8) v8 (encNet (paired pl)) := W8.cutT hv8 (flat_Net _)
      refine ⟨.ref m, rfl, nv n, rfl, m, c, g, b + 1 + n / 2, n, cutH m g G8, rfl, W8.full, by omega, by omega, fun p row H1 H2 hperm ex1 hrow WO => ?_⟩
      have hrD : Dp K H2 (.ref p) (encL row) := dp_L (sq_of (WO.ex _ _ hrow))
      obtain ⟨r1, r2, r3, r4⟩ := perm_row G0.toForm hperm
      refine ⟨v8, .ref p, n, paired pl, row, rfl, hvF.mono (ex1.trans WO.ex), hrD, G0.toForm, by omega, r1, r2, r3, fun v9 H9 e9 hv9 => ?_⟩
      have W9 := (WO.step e9)
      refine q v9 n (renum (paired pl) row) (cutH m g H9) H9 ((W8.exc.trans ex1).trans W9.exc) ((W9.full).le (by omega)) (good_order G0 hperm) (by omega) (W9.cutT hv9 (flat_Net _))
def spJoinedD (K : PySem.W.Frag) : Sp := fun vs H Q _ => ∃ (m c g : Addr) (b most : Nat) (H0 : Hp), vs = [.ref m, nv most] ∧ Wd m c g b H0 H ∧ b + 101 ≤ 1000000 ∧ 0 < most ∧ most ≤ 10 ∧ ∀ v n s t f H1 H2, Ex H0 H1 → Wd m c g (b + 101) H1 H2 → Good n t → n ≤ 4 * most → f < n → s = rdg t n f → Dp K H1 v (encNet s) → Q v H2
theorem sc_law_joined : FnScope ["_law_m", "_law_most", "_law_net_here"] ["_law_m", "_law_most"] (defScope (top 50)) := ⟨rfl, rfl, rfl, by decide +kernel, rfl, by decide +kernel, by decide +kernel⟩
theorem kn_law_joined (T : Txt K mg) (G_law_draw : Kn P w K mg base CX0 2 "_law_draw" ["_law_m", "_law_limit"] spDraw) (G_law_net : Kn P w K mg base CX0 4 "_law_net" ["_law_m", "_law_most"] (spNet K)) (G_law_numbered : Kn P w K mg base CX0 1 "_law_numbered" ["_law_net_here", "_law_order_here"] (spNum K))
    (G_law_part : Kn P w K mg base CX0 1 "_law_part" ["_law_net_here", "_law_flag"] (spBfs K)) : Kn P w K mg base CX0 5 "_law_joined" ["_law_m", "_law_most"] (spJoinedD K) := by
  obtain ⟨f, fd, F, hm⟩ := (T.df 39 (p := (50, "_law_joined")) rfl)
  refine kn_ok F hm sc_law_joined (fun _ _ _ _ _ _ us hl => match us, hl with | [_, _], _ => rfl) (fun vs H Q E h => ?_) (fun cdv A outer s H vs Q E hr h => ?_)
  · obtain ⟨m, c, g, b, most, H0, rfl, _⟩ := h
    rfl
  · obtain ⟨m, c, g, b, most, H0, rfl, W, hb, hm0, hm1, q⟩ := h
    refine ⟨_, (pss_cons (ps_set (i := 2) sc_law_joined.nd rfl (Or.inl rfl) (pe_kn G_law_net (hr.mono (by decide)) (by rfl) pass0 (pa_cons (pv 0) (pa_cons (pv 1) pa_nil))))
  (pss_one (ps_ret (pe_kn G_law_numbered (hr.mono (by decide)) (by rfl) pass0 (pa_cons (pv 2) (pa_cons (pe_kn G_law_part (hr.mono (by decide)) (by rfl) pass0 (pa_cons (pv 2) (pa_cons (pe_kn G_law_draw (hr.mono (by decide)) (by rfl) pass0 (pa_cons (pv 0) (pa_cons (pe_callB (cK_len (K := K) (by rfl)) (by rfl) T.len bt_len (pa_cons (pe_ix (ixK_tup (K := K) (by rfl)) (pv 2) pe_int (fun _ _ => rfl)) pa_nil)) pa_nil))) pa_nil))) pa_nil)))))), ?_⟩
    refine ⟨.ref m, rfl, nv most, rfl, m, c, g, b, most, H0, rfl, W, by omega, hm0, hm1, fun v n s H1 H2 ex1 W2 G hn hv => ?_⟩
    have hv2 : Dp K H2 v (encNet s) := hv.mono W2.ex
    have h4 := G.four
    refine ⟨v, rfl, v, rfl, .ref m, rfl, ?_⟩
    refine (g_ev (g_toV (g_len0 (K := K) G.toForm (g_dv (σ := [some (.ref m), some (nv most), some v]) (i := 2) rfl hv2)))) H2 (Ex.refl H2) _ fun H3 e3 => ?_
    have W3 := W2.step e3
    refine ⟨m, c, g, b + 100, n, H1, rfl, by omega, by omega, by omega, W3, fun f H4 hf W4 => ?_⟩
    have hv4 : Dp K H4 v (encNet s) := hv.mono W4.ex
    refine ⟨v, n, s, f, rfl, hv4, G.toForm, hf, by omega, fun p H5 hp e5 h5 => ?_⟩
    refine ⟨v, .ref p, n, s, bfs s n f, rfl, hv4.mono e5, dp_L (sq_of h5), G.toForm, by omega, bfs_nodup G.toForm hf, bfs_lt G.toForm hf, bfs_closed G.toForm hf, fun v9 H9 e9 hv9 => ?_⟩
    have W9 := (W4.step e5).step e9
    exact q v9 n (renum s (bfs s n f)) s f (cutH m g H9) H9 (ex1.trans W9.exc) W9.full G hn hf rfl (W9.cutT hv9 (flat_Net _))
end
end Nk
/-! ## D4: _law_near -/
namespace Nk
open PySem PySem.Spec PyProof.Rows L2 Evl

def bent (r : List Nat) (a b : Nat) : List Nat := (((r.set a b).set b a).set (r.getD a 0) (r.getD b 0)).set (r.getD b 0) (r.getD a 0)
def nearN (s : Net) (a b : Nat) : Net := [s.getD 0 [], bent (s.getD 1 []) a b, s.getD 2 []]
theorem net_eta {n : Nat} {s : Net} (F : Form n s) : s = [s.getD 0 [], s.getD 1 [], s.getD 2 []] := by
  have h := F.three
  match s, h with
  | [a, b, c], _ => rfl
theorem good_near {n : Nat} {s : Net} (G : Good n s) {a b : Nat} (ha : a < n) (hb : b < n) (h1 : b ≠ a) (h2 : b ≠ ap s 1 a) : Good n (nearN s a b) := by
  have F := G.toForm
  obtain ⟨c0, _, hg0, hl0, hm0⟩ := F.get (c := 0) (by omega)
  obtain ⟨c1, _, hg1, hl1, hm1⟩ := F.get (c := 1) (by omega)
  obtain ⟨c2, _, hg2, hl2, hm2⟩ := F.get (c := 2) (by omega)
  have e1 : ∀ x, ap s 1 x = c1.getD x 0 := fun x => by unfold ap; rw [hg1]
  have hfa : ap s 1 a < n := F.at (by omega) ha
  have hfb : ap s 1 b < n := F.at (by omega) hb
  have ia := G.apInv (c := 1) (by omega) ha
  have ib := G.apInv (c := 1) (by omega) hb
  have na := G.apNe (c := 1) (by omega) ha
  have nb := G.apNe (c := 1) (by omega) hb
  have n1 : ap s 1 b ≠ a := fun e => h2 (by rw [← e, ib])
  have n2 : ap s 1 a ≠ ap s 1 b := fun e => h1 (by rw [← ib, ← e, ia])
  -- the bent row
  have g : ∀ x, (bent c1 a b).getD x 0 = if x = ap s 1 b then ap s 1 a else if x = ap s 1 a then ap s 1 b else if x = b then a else if x = a then b else ap s 1 x := fun x => by
    unfold bent
    rw [← e1, ← e1]
    rw [getD_set (by rw [List.length_set, List.length_set, List.length_set, hl1]; exact hfb), getD_set (by rw [List.length_set, List.length_set, hl1]; exact hfa), getD_set (by rw [List.length_set, hl1]; exact hb), getD_set (by rw [hl1]; exact ha), ← e1]
  have lt : ∀ x < n, (bent c1 a b).getD x 0 < n := fun x hx => by
    rw [g]
    have := F.at (c := 1) (by omega) hx
    split
    · exact hfa
    · split
      · exact hfb
      · split
        · exact ha
        · split
          · exact hb
          · exact this
  have hlb : (bent c1 a b).length = n := by unfold bent; rw [List.length_set, List.length_set, List.length_set, List.length_set, hl1]
  have en : nearN s a b = [c0, bent c1 a b, c2] := by unfold nearN; rw [hg0, hg1, hg2]
  rw [en]
  have a0 : ∀ x, ap [c0, bent c1 a b, c2] 0 x = ap s 0 x := fun x => by unfold ap; rw [hg0]; rfl
  have a1 : ∀ x, ap [c0, bent c1 a b, c2] 1 x = (bent c1 a b).getD x 0 := fun x => rfl
  have a2 : ∀ x, ap [c0, bent c1 a b, c2] 2 x = ap s 2 x := fun x => by unfold ap; rw [hg2]; rfl
  have FF : Form n [c0, bent c1 a b, c2] := by
    refine ⟨rfl, fun r hr => ?_, fun r hr x hx => ?_⟩
    · have hr : r = c0 ∨ r = bent c1 a b ∨ r = c2 := by simpa using hr
      rcases hr with rfl | rfl | rfl
      · exact hl0
      · exact hlb
      · exact hl2
    · have hr : r = c0 ∨ r = bent c1 a b ∨ r = c2 := by simpa using hr
      rcases hr with rfl | rfl | rfl
      · exact F.lt _ hm0 x hx
      · obtain ⟨i, hi⟩ := List.mem_iff_getElem?.mp hx
        have hil := (List.getElem?_eq_some_iff.mp hi).1
        have := lt i (by omega)
        rwa [getD_of hi] at this
      · exact F.lt _ hm2 x hx
  refine good_of FF G.four G.most (fun c hc z hz => ?_) (fun c hc z hz => ?_) (fun f hf => ?_) (fun f hf => ?_)
  · have : c = 0 ∨ c = 1 ∨ c = 2 := by omega
    rcases this with rfl | rfl | rfl
    · rw [a0, a0, G.apInv (by omega) hz]
    · rw [a1, a1, g z]
      by_cases z1 : z = ap s 1 b
      · rw [if_pos z1, g, if_neg n2, if_pos rfl, z1]
      · rw [if_neg z1]
        by_cases z2 : z = ap s 1 a
        · rw [if_pos z2, g, if_pos rfl, z2]
        · rw [if_neg z2]
          by_cases z3 : z = b
          · rw [if_pos z3, g, if_neg n1.symm, if_neg na.symm, if_neg h1.symm, if_pos rfl, z3]
          · rw [if_neg z3]
            by_cases z4 : z = a
            · rw [if_pos z4, g, if_neg nb.symm, if_neg h2, if_pos rfl, z4]
            · rw [if_neg z4, g]
              have iz := G.apInv (c := 1) (by omega) hz
              have m1 : ap s 1 z ≠ ap s 1 b := fun e => z3 (by rw [← iz, e, ib])
              have m2 : ap s 1 z ≠ ap s 1 a := fun e => z4 (by rw [← iz, e, ia])
              have m3 : ap s 1 z ≠ b := fun e => z1 (by rw [← e, iz])
              have m4 : ap s 1 z ≠ a := fun e => z2 (by rw [← e, iz])
              rw [if_neg m1, if_neg m2, if_neg m3, if_neg m4, iz]
    · rw [a2, a2, G.apInv (by omega) hz]
  · have : c = 0 ∨ c = 1 ∨ c = 2 := by omega
    rcases this with rfl | rfl | rfl
    · rw [a0]
      exact G.apNe (by omega) hz
    · rw [a1, g]
      split
      · rename_i e
        exact fun z => n2 (z.trans e)
      · split
        · rename_i _ e
          exact fun z => n2 (e.symm.trans z.symm)
        · split
          · rename_i _ _ e
            exact fun z => h1 (e.symm.trans z.symm)
          · split
            · rename_i _ _ _ e
              exact fun z => h1 (z.trans e)
            · exact G.apNe (by omega) hz
    · rw [a2]
      exact G.apNe (by omega) hz
  · rw [a0, a2, a2, a0]
    exact G.square f hf
  · rw [a0, a2]
    exact G.apart f hf
def spNear (K : PySem.W.Frag) : Sp := fun vs H Q _ => ∃ (m c g : Addr) (b n : Nat) (s : Net) (v : V) (H0 : Hp), vs = [.ref m, v] ∧ Wd m c g b H0 H ∧ b + 2 ≤ 1000000 ∧ Dp K H0 v (encNet s) ∧ Good n s ∧ ∀ u t H1 H2, Ex H0 H1 → Wd m c g (b + 2) H1 H2 → Good n t → Dp K H1 u (encNet t) → Q u H2
section
variable {K : PySem.W.Frag} {σ : L2.St} {H : Hp} {ta : TE} {P : Program} {w : World} {mg : Str → Option Value} {base : Heap}
theorem el_listG {l : List Nat} (h : EvG K ta σ H (.d (encR l))) : EvL (tCB (fun xs H Q => ∃ p ys, xs = [.ref p] ∧ (SqL K H p ys ∨ SqT K H p ys) ∧ ∀ l, H l = none → Q (.ref l) (upd H l (.lst ys))) (tCons ta tNil)) σ H (nl l) := fun H1 e Q q =>
  h H1 e _ fun w H2 e2 hw => by
    obtain ⟨a, rfl, ha⟩ := dp_ofR hw
    exact ⟨a, nl l, rfl, .inr ha, fun p hp => q p _ (fresh_back e2 hp) (e2.trans (Ex.new hp)) upd_same⟩
theorem sc_law_near : FnScope ["_law_m", "_law_net_here", "_law_many", "_law_one", "_law_other", "_law_far", "_law_there", "_law_row"] ["_law_m", "_law_net_here"] (defScope (top 60)) := ⟨rfl, rfl, rfl, by decide +kernel, rfl, by decide +kernel, by decide +kernel⟩
theorem kn_law_near (T : Txt K mg) (G_law_draw : Kn P w K mg base CX0 2 "_law_draw" ["_law_m", "_law_limit"] spDraw) : Kn P w K mg base CX0 3 "_law_near" ["_law_m", "_law_net_here"] (spNear K) := by
  obtain ⟨f, fd, F, hm⟩ := (T.df 49 (p := (60, "_law_near")) rfl)
  refine kn_ok F hm sc_law_near (fun _ _ _ _ _ _ us hl => match us, hl with | [_, _], _ => rfl) (fun vs H Q E h => ?_) (fun cdv A outer s H vs Q E hr h => ?_)
  · obtain ⟨m, c, g, b, n, s, v, H0, rfl, _⟩ := h
    rfl
  · obtain ⟨m, c, g, b, n, s, v, H0, rfl, W, hb, hv, G, q⟩ := h
    refine ⟨_, (pss_cons (ps_set (i := 2) sc_law_near.nd rfl (Or.inl rfl) (pe_callB (cK_len (K := K) (by rfl)) (by rfl) T.len bt_len (pa_cons (pe_ix (ixK_tup (K := K) (by rfl)) (pv 1) pe_int (fun _ _ => rfl)) pa_nil)))
  (pss_cons (ps_par (i := 3) (j := 4) (by rfl) sc_law_near.nd rfl rfl (by decide) rfl rfl (pa_cons (pe_kn G_law_draw (hr.mono (by decide)) (by rfl) pass0 (pa_cons (pv 0) (pa_cons (pv 2) pa_nil))) (pa_cons (pe_kn G_law_draw (hr.mono (by decide)) (by rfl) pass0 (pa_cons (pv 0) (pa_cons (pv 2) pa_nil))) pa_nil)) (by rfl))
  (pss_cons (ps_par (i := 5) (j := 6) (by rfl) sc_law_near.nd rfl rfl (by decide) rfl rfl (pa_cons (pe_ix (ixK_tup (K := K) (by rfl)) (pe_ix (ixK_tup (K := K) (by rfl)) (pv 1) pe_int (fun _ _ => rfl)) (pv 3) (fun _ _ => rfl)) (pa_cons (pe_ix (ixK_tup (K := K) (by rfl)) (pe_ix (ixK_tup (K := K) (by rfl)) (pv 1) pe_int (fun _ _ => rfl)) (pv 4) (fun _ _ => rfl)) pa_nil)) (by rfl))
  (pss_cons (ps_if (pt_cmpR (opK_in (K := K) (by rfl)) (pv 4) (pe_lst (pa_cons (pv 3) (pa_cons (pv 5) pa_nil))) (by rfl))
  (pss_one (ps_ret (pv 1)))
  pss_nil)
  (pss_cons (ps_set (i := 7) sc_law_near.nd rfl (Or.inl rfl) (pe_callTy (cK_list (K := K) (by rfl)) (by rfl) T.list bt_list (pa_cons (pe_ix (ixK_tup (K := K) (by rfl)) (pv 1) pe_int (fun _ _ => rfl)) pa_nil)))
  (pss_cons (ps_asg (pe_tup (pa_cons (pv 4) (pa_cons (pv 3) pa_nil))) (pg_tup rfl (pgs_cons (pg_sub (pv 7) (pv 3) set_list) (pgs_cons (pg_sub (pv 7) (pv 4) set_list) pgs_nil))))
  (pss_cons (ps_asg (pe_tup (pa_cons (pv 6) (pa_cons (pv 5) pa_nil))) (pg_tup rfl (pgs_cons (pg_sub (pv 7) (pv 5) set_list) (pgs_cons (pg_sub (pv 7) (pv 6) set_list) pgs_nil))))
  (pss_one (ps_ret (pe_tup (pa_cons (pe_ix (ixK_tup (K := K) (by rfl)) (pv 1) pe_int (fun _ _ => rfl)) (pa_cons (pe_callTy (cK_tuple (K := K) (by rfl)) (by rfl) T.tuple bt_tuple (pa_cons (pv 7) pa_nil)) (pa_cons (pe_ix (ixK_tup (K := K) (by rfl)) (pv 1) pe_int (fun _ _ => rfl)) pa_nil))))))))))))), ?_⟩
    have h4 := G.four
    have h960 := G.most
    refine asgI (n := n) (g_len0 G.toForm (g_dv rfl (hv.mono W.ex))) fun H1 e1 => ?_
    have W1 := W.step e1
    refine ⟨.ref m, rfl, nv n, rfl, m, c, g, b, n, H0, rfl, by omega, by omega, by omega, W1, fun a H2 ha W2 => ?_⟩
    refine ⟨.ref m, rfl, nv n, rfl, m, c, g, b + 1, n, H0, rfl, by omega, by omega, by omega, W2, fun d H3 hd W3 => ?_⟩
    refine ⟨nv a, nv d, rfl, ?_⟩
    have hv3 : Dp K H3 v (encNet s) := hv.mono W3.ex
    obtain ⟨c1, hch, hg1, hl1, hm1⟩ := G.toForm.get (c := 1) (by omega)
    have e1 : ∀ x, ap s 1 x = c1.getD x 0 := fun x => by unfold ap; rw [hg1]
    have hat : ∀ {x : Nat}, x < n → c1[x]? = some (ap s 1 x) := fun {x} hx => by
      obtain ⟨y, hy, hy2, _⟩ := G.toForm.row hm1 hx
      rw [e1, hy2]
      exact hy
    have hix : ∀ {H4 : Hp} {k x : Nat} {y5 y6 y7 : Option V}, Ex H3 H4 → x < n → ([some (.ref m), some v, some (nv n), some (nv a), some (nv d), y5, y6, y7] : L2.St)[k]? = some (some (nv x)) → EvG K (tOp (rIxT K) (tOp (rIxT K) (tVar 1) (tC (.int 1))) (tVar k)) [some (.ref m), some v, some (nv n), some (nv a), some (nv d), y5, y6, y7] H4 (.d (encN (ap s 1 x))) := fun {H4 k x y5 y6 y7} e4 hx hk =>
      g_ixT (i := x) (g_ixT (i := 1) (g_dv rfl (hv3.mono e4)) g_int (encNet_get hch)) (g_vn hk) (encR_get (hat hx))
    refine (hix (Ex.refl H3) ha rfl) H3 (Ex.refl H3) _ fun y H4 e4 hy => ?_
    cases Dp.int_eq hy
    refine (hix e4 hd rfl) H4 (Ex.refl H4) _ fun y H5 e5 hy => ?_
    cases Dp.int_eq hy
    refine ⟨nv (ap s 1 a), nv (ap s 1 d), rfl, ?_⟩
    have W5 := (W3.step e4).step e5
    have e35 := e4.trans e5
    have hlist : EvL (tLst (tCons (tVar 3) (tCons (tVar 5) tNil))) [some (.ref m), some v, some (nv n), some (nv a), some (nv d), some (nv (ap s 1 a)), some (nv (ap s 1 d)), none] H5 (nl [a, ap s 1 a]) := el_lst (ea_cons (ev_var rfl) (ea_cons (ev_var rfl) ea_nil)) (by show 2 ≤ 100000; omega)
    refine q_when (et_test (ev_opL (ev_var (v := nv d) rfl) hlist fun p G hp eG => rv_isL (sq_of hp) rfl rfl)) (fun hb6 H6 e6 => ?_) (fun hb6 H6 e6 => ?_)
    · have W6 := W5.step e6
      exact s_ret (ev_var rfl) fun H7 e7 => q v s (cutH m g H7) H7 ((W6.step e7).exc) ((W6.step e7).full) G (hv.mono (W6.step e7).exc)
    · rw [inV_nat] at hb6
      have hb6 := of_decide_eq_false hb6
      have hda : d ≠ a := fun z => hb6 (by simp [z])
      have hdf : d ≠ ap s 1 a := fun z => hb6 (by simp [z])
      have W6 := W5.step e6
      have hv6 : Dp K H6 v (encNet s) := hv3.mono (e35.trans e6)
      refine q_asgL (el_listG (l := c1) (g_ixT (i := 1) (g_dv rfl hv6) g_int (encNet_get hch))) fun p H7 p0 e7 hp7 => ?_
      have W7 := W6.step e7
      have pm : p ≠ m := fun z => by obtain ⟨_, _, h⟩ := W6.hm; rw [← z, p0] at h; cases h
      have pg : p ≠ g := fun z => by obtain ⟨_, h⟩ := W6.hg; rw [← z, p0] at h; cases h
      have pH0 : H0 p = none := fresh_back W6.ex p0
      have fa : ap s 1 a < n := G.toForm.at (by omega) ha
      have fd : ap s 1 d < n := G.toForm.at (by omega) hd
      refine q_set2 (K := K) (i := a) (j := d) (v1 := nv d) (v2 := nv a) hp7 (ev_var rfl) (ev_var rfl) (fun G => ev_var rfl) (ev_var rfl) (fun G _ => ev_var rfl) (by rw [nl_len]; omega) (by rw [nl_len]; omega) fun H8 e8 => ?_
      rw [nl_set, nl_set]
      have hp8 : (upd H8 p (.lst (nl ((c1.set a d).set d a)))) p = some (.lst (nl ((c1.set a d).set d a))) := upd_same
      have W8 : Wd m c g (b + 2) H0 (upd H8 p (.lst (nl ((c1.set a d).set d a)))) := (W7.step e8).mut pH0 pm pg
      refine q_set2 (K := K) (i := ap s 1 a) (j := ap s 1 d) (v1 := nv (ap s 1 d)) (v2 := nv (ap s 1 a)) hp8 (ev_var rfl) (ev_var rfl) (fun G => ev_var rfl) (ev_var rfl) (fun G _ => ev_var rfl) (by rw [nl_len, List.length_set, List.length_set]; omega) (by rw [nl_len, List.length_set, List.length_set]; omega) fun H9 e9 => ?_
      rw [nl_set, nl_set]
      have eb : (((c1.set a d).set d a).set (ap s 1 a) (ap s 1 d)).set (ap s 1 d) (ap s 1 a) = bent c1 a d := by
        unfold bent
        rw [e1, e1]
      rw [eb]
      have W9 : Wd m c g (b + 2) H0 (upd H9 p (.lst (nl (bent c1 a d)))) := (W8.step e9).mut pH0 pm pg
      have hp9 : (upd H9 p (.lst (nl (bent c1 a d)))) p = some (.lst (nl (bent c1 a d))) := upd_same
      have hv9 : Dp K (upd H9 p (.lst (nl (bent c1 a d)))) v (encNet s) := hv.mono W9.ex
      obtain ⟨c0, hch0, hg0, _, _⟩ := G.toForm.get (c := 0) (by omega)
      obtain ⟨c2, hch2, hg2, _, _⟩ := G.toForm.get (c := 2) (by omega)
      refine retG (K := K) (a := .d (encNet (nearN s a d))) (g_is (g_tup (ds := [encR c0, encR (bent c1 a d), encR c2]) (gs_cons (g_ixT (i := 0) (g_dv rfl hv9) g_int (encNet_get hch0)) (gs_cons (g_tupOf (ds := (bent c1 a d).map encN) (g_dv rfl (dp_L (sq_of hp9)))) (gs_cons (g_ixT (i := 2) (g_dv rfl hv9) g_int (encNet_get hch2)) gs_nil))) (by show 3 ≤ 100000; omega)) ?_) fun u H10 e10 hu => ?_
      · unfold nearN
        rw [hg0, hg1, hg2]
        rfl
      · have W10 := W9.step e10
        exact q u (nearN s a d) (cutH m g H10) H10 W10.exc W10.full (good_near G ha hd hda hdf) (W10.cutT hu (flat_Net _))
end
end Nk
/-! ## E1: enumerate over a tuple -/
namespace Nk
open PySem PySem.Spec PyProof.Rows L2 Evl
open Sem (wp)
section
set_option maxHeartbeats 1000000 in
theorem new_enum1 {v : Value} {ob : Obj} {Hq : Heap → Prop} (B : Begins v ob Hq) :
    Meets (Builtin.«enumerate.__new__» ⟨[.type "enumerate", v], []⟩) (fun _ R s => Hq s.heap ∧
      R (.ok (.ret (.ref (s.heap.push ob).objs.size))) { s with heap := (s.heap.push ob).push { cls := .type "enumerate", data := .fields #[.none, .bool false, .ref s.heap.objs.size, rawInt 0, .none, .none] } }) :=
  .of_wp fun prog w A R s hyp => by
    obtain ⟨hp0, gl, dd, tk0, oss⟩ := s
    obtain ⟨hB, hyp⟩ := hyp
    have hsb := sub_enumerate
    have itq : ∀ {A2 : Around} {E2 : Value → Shared → Prop} {Q2 : Value → Shared → Prop}, Q2 (.ref hp0.objs.size) ⟨hp0.push ob, gl, dd, tk0, oss⟩ → wpAny (model prog w) A2 (pyIter v) Q2 E2 ⟨hp0, gl, dd, tk0, oss⟩ :=
      fun z => B.iter prog w _ _ ⟨hp0, gl, dd, tk0, oss⟩ _ hB z
    wp_walk using itq
    refine wpAny_stack_any fun stk => wpAny_pure ?_
    split
    · rename_i cc _ _ _ _ _
      cases (cc == Value.type "enumerate")
      all_goals
        wp_walk using itq
        exact ⟨_, rfl, hyp⟩
    · wp_walk using itq
      exact ⟨_, rfl, hyp⟩
end
section
variable {prog : Program} {w : World} {A : Around} {E : Value → Shared → Prop} {s : Shared}
theorem call_enum1 {v : Value} {ob : Obj} {Hq : Heap → Prop} {Q : Value → Shared → Prop} (B : Begins v ob Hq) (h1 : Hq s.heap)
    (hyp : ∀ h', IsEnum h' (s.heap.objs.size + 1) s.heap.objs.size 0 .none → h'.get? s.heap.objs.size = some ob → h'.objs.size = s.heap.objs.size + 2 →
      (∀ b o, s.heap.get? b = some o → h'.get? b = some o) → Q (.ref (s.heap.objs.size + 1)) { s with heap := h' }) :
    wpAny (model prog w) A (call (.type "enumerate") [v]) Q E s := by
  refine callType_new F.called_enumerate (by decide) (F.typeCall_enumerate_1 _) (F.newCall_enumerate_1 _) (fun obj => F.args_object_init_2 obj _) F.entry_enumerate_new (new_enum1 B) ⟨h1, ?_⟩
  have sz1 : (s.heap.push ob).objs.size = s.heap.objs.size + 1 := Heap.size_push ..
  show _ ∧ _
  rw [sz1]
  have hen : IsEnum ((s.heap.push ob).push { cls := .type "enumerate", data := .fields #[.none, .bool false, .ref s.heap.objs.size, rawInt 0, .none, .none] }) (s.heap.objs.size + 1) s.heap.objs.size 0 .none := by
    have z := Heap.get?_push_size (s.heap.push ob) (o := { cls := .type "enumerate", data := .fields #[.none, .bool false, .ref s.heap.objs.size, rawInt 0, .none, .none] }) rfl
    rw [sz1] at z
    exact z
  exact ⟨⟨_, hen, rfl⟩, hyp _ hen (Heap.get?_push_of_some _ (Heap.get?_push_size _ B.free)) (by rw [Heap.size_push, sz1]) fun b o z => Heap.get?_push_of_some _ (Heap.get?_push_of_some _ z)⟩
end
/-- enumerate over the tuple at a -/
def Iet (K : PySem.W.Frag) (a : Addr) : It :=
  ⟨fun i H => ∃ (xs : List V) (x : V), SqT K H a xs ∧ xs[i]? = some x, fun i H v H' => ∃ T x, v = .ref T ∧ H T = none ∧ H' = upd H T (.tup [.int (i : Nat), x]) ∧ ∀ xs, SqT K H a xs → xs[i]? = some x, fun i H => ∃ xs : List V, SqT K H a xs ∧ xs.length = i⟩
theorem two_mem {b e it : Addr} (h : b ∈ [e, it]) : b = e ∨ b = it := by simpa using h
theorem turn_enumT {P : Program} {w : World} {K : PySem.W.Frag} {elts : List Expr} {kk : Nat} {tpos : Pos} (a e it : Addr) :
    Turn P w K (.Tuple elts kk tpos) (Iet K a) [e, it] e (fun i h => (∃ old, IsEnum h e it ((i : Nat) : Int) old) ∧ h.IsTupleIter it a i ∧ e ≠ it ∧ e ≠ a ∧ a ≠ it) where
  mem := by simp
  obj := fun i h st b hb => by
    obtain ⟨⟨old, hE⟩, ⟨o, ho, hc, hd⟩, _⟩ := st
    rcases two_mem hb with rfl | rfl
    · exact ⟨_, hE, fun v q => nomatch q⟩
    · exact ⟨o, ho, fun v q => by rw [hd] at q; cases q⟩
  keep := fun i h h' st k => by
    obtain ⟨⟨old, hE⟩, hI, hne⟩ := st
    exact ⟨⟨old, k e (by simp) _ hE⟩, hI.at fun o q => k it (by simp) o q, hne⟩
  item := by
    intro X hP hw hK hc i pins s σ H E I hf st hg
    subst hP hw hK
    obtain ⟨⟨old, hE⟩, hI, hne, hea, hai⟩ := st
    obtain ⟨xs, x, hq, hx⟩ := hg
    obtain ⟨its, rv, p, hz⟩ := I.tuple hq
    obtain ⟨u, hu, ru⟩ := rv.get hx
    have hel : e < s.heap.objs.size := Heap.lt_size hE
    have hil : it < s.heap.objs.size := by
      obtain ⟨_, q, _⟩ := hI
      exact Heap.lt_size q
    have pT : s.heap.IsTuple a its.toArray := p
    have hut : its.toArray[i]? = some u := by simpa using hu
    have hlt : i < its.toArray.size := by
      rcases Nat.lt_or_ge i its.toArray.size with h | h
      · exact h
      · rw [Array.getElem?_eq_none h] at hut
        cases hut
    have hd := I.ok.hd hc
    refine wpAny_pyNext_enum_itemD (Draws.tuple (A := X.A.in1) hd it a hai its.toArray) hE ⟨hI, pT⟩ hlt hne (by simp [hne, hea]) fun x1 h' tk hx1 ho st' hT hsz hk => ?_
    have hx2 : x1 = u := by
      have z : its.toArray[i]? = some x1 := hx1
      rw [hut] at z
      exact (Option.some.inj z).symm
    subst hx2
    refine ⟨_, rfl, wpAny_letOwnedTupleGo_enum (s := { s with heap := h', toks := tk + 1 }) ho fun h'' he' sb => ?_⟩
    have hT2 : h''.get? s.heap.objs.size = some { cls := .type "tuple", data := .seq #[.int i tk, x1] } := (sb.2 _ (Nat.ne_of_gt hel)).trans hT
    have newO : ObjOk X.prog X.w (upd H s.heap.objs.size (.tup [.int (i : Nat), x])) h'' s.heap.objs.size (.tup [.int (i : Nat), x]) :=
      ⟨by show 2 ≤ sizeLine; decide, [.int i tk, x1], .cons ⟨_, rfl⟩ (.cons ru .nil), ⟨_, hT2, rfl, _, rfl⟩⟩
    have kp : ∀ b ob, b ∉ [e, it] → s.heap.get? b = some ob → h''.get? b = some ob := fun b ob hb q =>
      (sb.2 b (fun z => hb (by simp [z]))).trans (hk b ob (fun z => hb (by simp [z])) (fun z => hb (by simp [z])) q)
    have I1 : Inv X pins σ (upd H s.heap.objs.size (.tup [.int (i : Nat), x])) { s with heap := h'', toks := tk + 1 } := I.turnedNew (ch := [e, it]) kp hf (Nat.le_refl _) newO
    have e1 : ((i + 1 : Nat) : Int) = (i : Int) + 1 := by omega
    refine ⟨.ref s.heap.objs.size, _, I1, rfl, ⟨_, x, rfl, I.hok.fresh (Nat.le_refl _), rfl, fun ys hy => by rw [I.tuple_inj hy hq]; exact hx⟩, ⟨⟨x1, e1 ▸ he'⟩, st'.1.at fun o q => (sb.2 it (Ne.symm hne)).trans q, hne, hea, hai⟩, fun b hb => ?_⟩
    have hb' : b < s.heap.objs.size := by
      rcases two_mem hb with rfl | rfl
      · exact hel
      · exact hil
    rw [upd_ne (Nat.ne_of_lt hb')]
    exact (hf b hb).1
  done := by
    intro X hP hw hK hc i pins s σ H E I hf st hg
    subst hP hw hK
    obtain ⟨⟨old, hE⟩, hI, hne, hea, hai⟩ := st
    obtain ⟨xs, hq, hx⟩ := hg
    obtain ⟨its, rv, p, hz⟩ := I.tuple hq
    obtain ⟨f0, f1, f2, f3, f4, f5⟩ := hf it (by simp)
    have hsz : its.toArray.size = i := by
      rw [← hx, rv.length]
      simp
    have pT : s.heap.IsTuple a its.toArray := p
    refine wpAny_pyNext_enum_endD (Draws.tuple (A := X.A.in1) (I.ok.hd hc) it a hai its.toArray) hE (by rw [hsz]; exact ⟨hI, pT⟩) fun h' eb => ⟨rfl, ?_⟩
    exact I.turned (t' := s.toks) (fun b o hb z => eb b o hb z) f0 f1 f3 f4 f5
  self := fun A i s Q E st h => by
    obtain ⟨⟨_, hE⟩, _⟩ := st
    exact wpAny_pyIter_enum hE h
def iEnT (K : PySem.W.Frag) (ta : TA) : TI := fun σ H R => ta σ H fun vs H1 => ∃ a xs, vs = [.ref a] ∧ SqT K H1 a xs ∧ R (Iet K a) H1
theorem pi_enumT {X : Cx} {e : Expr} {ta : TA} {p pos tpos : Pos} {elts : List Expr} {kk : Nat} (hg : Gl X "enumerate") (hm : X.mg "enumerate" = none) (ha : PA X [e] ta) (hs : starEach [e] X.env = [(false, eval e X.env)] := by rfl) :
    PI X (.Tuple elts kk tpos) (.Call (.Name "enumerate" p) [e] [] pos) (iEnT X.K ta) := by
  refine ⟨fun pins s σ H R I h => ?_⟩
  refine Call_ (ld_blt I hg hm boot_enumerate (PyProof.Rows.callWith_type1 (thn (ha.run pos pins s σ H _ I h) fun us s1 ⟨vs, H1, I1, r1, q1⟩ => ?_) hs rfl))
  obtain ⟨a, xs, rfl, hq, q⟩ := q1
  cases r1 with
  | cons r rr =>
    cases rr
    cases r
    obtain ⟨its, rv, pt, hz⟩ := I1.tuple hq
    have pT : s1.heap.IsTuple a its.toArray := pt
    have ha : a < s1.heap.objs.size := by
      obtain ⟨_, z, _⟩ := pT
      exact Heap.lt_size z
    refine call_enum1 (begins_tuple a its.toArray) pT fun h' hE hit hsz hk => wpAny_pyIter_enum hE ?_
    have I2 : Inv X pins σ H1 { s1 with heap := h' } := I1.kept (t' := s1.toks) hk
    refine ⟨s1.heap.objs.size + 1, [s1.heap.objs.size + 1, s1.heap.objs.size], _, _, H1, rfl, I2, turn_enumT a (s1.heap.objs.size + 1) s1.heap.objs.size, ⟨⟨.none, hE⟩, ⟨_, hit, rfl, rfl⟩, Nat.succ_ne_self _, fun z => ?_, Nat.ne_of_lt ha⟩, fun b hb => ?_, q⟩
    · have z2 : s1.heap.objs.size + 1 = a := z
      rw [← z2] at ha
      exact absurd (Nat.lt_of_succ_lt ha) (Nat.lt_irrefl _)
    · have hle : s1.heap.objs.size ≤ b := by
        rcases two_mem hb with rfl | rfl
        · exact Nat.le_add_right _ _
        · exact Nat.le_refl _
      exact I1.fpOk hle (I1.hok.fresh hle)
theorem piK_enumT {K : PySem.W.Frag} {X : Cx} {e : Expr} {ta : TA} {p pos tpos : Pos} {elts : List Expr} {kk : Nat} (h : X.K = K) (hg : Gl X "enumerate") (hm : X.mg "enumerate" = none) (ha : PA X [e] ta) (hs : starEach [e] X.env = [(false, eval e X.env)] := by rfl) :
    PI X (.Tuple elts kk tpos) (.Call (.Name "enumerate" p) [e] [] pos) (iEnT K ta) := h ▸ pi_enumT hg hm ha hs
theorem walk_enumT {K : PySem.W.Frag} {a : Addr} {xs : List V} : Walk (Iet K a) xs.length (fun H => SqT K H a xs) (YPair (fun i => some (.int (i : Nat))) (fun i => xs[i]?)) := by
  refine ⟨fun i _ hi q => ⟨xs, xs[i], q, by simp [hi]⟩, fun _ q => ⟨xs, q, rfl⟩, fun i H v H' _ q y => ?_⟩
  obtain ⟨T, x, z1, z2, z3, z4⟩ := y
  exact ⟨T, .int (i : Nat), x, z1, z2, z3, rfl, z4 xs q⟩
section
variable {K : PySem.W.Frag} {σ : L2.St} {H : Hp} {D : Ends} {tu tz : TS}
theorem s_enumT {i1 i2 : Nat} {a : Addr} {xs : List V} {ta : TA} (h : EvA ta σ H [.ref a]) (hx : SqT K H a xs) (Pv : Nat → L2.St → Hp → Prop) (h0 : ∀ H1, Ex H H1 → Pv 0 σ H1) (hl : ∀ i σ' H', Pv i σ' H' → SqT K H' a xs)
    (hs : ∀ i x σ' H' H2, xs[i]? = some x → Pv i σ' H' → Ex H' H2 → tu { D with nx := Pv (i + 1), ct := Pv (i + 1), bk := D.nx } ((σ'.set i1 (some (nv i))).set i2 (some x)) H2) (hd : ∀ σ' H', Pv xs.length σ' H' → D.nx σ' H') :
    tFor (iEnT K ta) (gTup K 2 (gCons (gName i1) (gCons (gName i2) gNil))) tu D σ H := by
  refine h H (Ex.refl H) _ fun H1 e1 => ?_
  refine ⟨a, xs, rfl, ex_t e1 hx, ?_⟩
  refine for_pair (D := D) walk_enumT Pv (h0 H1 e1) (fun i σ' H' _ p => hl i σ' H' p) (fun i x y σ' H' H2 hi h1 h2 p e => ?_) hd
  cases h1
  exact hs i y σ' H' H2 h2 p e
end
end Nk
/-! ## E2: _law_far_net, _law_glue -/
namespace Nk
open PySem PySem.Spec PyProof.Rows L2 Evl

def iv (l : List Int) : List V := l.map .int
def encI (l : List Int) : PyData := .tuple (l.map .int)
def encG (fs : List (List Int)) : PyData := .tuple (fs.map encI)
def gFol : Nat → List (List Int) → List Nat
  | _, [] => []
  | b, f :: fs => (List.range f.length).map (fun n => b + (n + 1) % f.length) ++ gFol (b + f.length) fs
def corn1 (fo : List Nat) (l : List Nat) (n : Nat) : List Nat := (l.set (2 * n + 1) (2 * fo.getD n 0)).set (2 * fo.getD n 0) (2 * n + 1)
def corn (fo : List Nat) (m k : Nat) : List Nat := (List.range k).foldl (corn1 fo) (List.replicate (2 * m) 0)
def acr1 (ss : List Int) (n : Nat) (l : List Nat) (k : Nat) : List Nat :=
  if k ≠ n ∧ ss.getD k 0 = ss.getD n 0 then (l.set (2 * n) (2 * k)).set (2 * n + 1) (2 * k + 1)
  else if k ≠ n ∧ ss.getD k 0 = -ss.getD n 0 then (l.set (2 * n) (2 * k + 1)).set (2 * n + 1) (2 * k) else l
def acrN (ss : List Int) (n k : Nat) (l : List Nat) : List Nat := (List.range k).foldl (acr1 ss n) l
def acr (ss : List Int) (m k : Nat) : List Nat := (List.range k).foldl (fun l n => acrN ss n m l) (List.replicate (2 * m) 0)
def glueN (fs : List (List Int)) : Net := [ends (2 * fs.flatten.length), corn (gFol 0 fs) fs.flatten.length fs.flatten.length, acr fs.flatten fs.flatten.length fs.flatten.length]
theorem set2_len (l : List Nat) (i v j u : Nat) : ((l.set i v).set j u).length = l.length := by rw [List.length_set, List.length_set]
theorem foldl_len {α : Type} {g : List Nat → α → List Nat} (h : ∀ l a, (g l a).length = l.length) : ∀ (xs : List α) (l : List Nat), (xs.foldl g l).length = l.length
  | [], l => rfl
  | x :: xs, l => by
    rw [List.foldl_cons, foldl_len h xs, h]
theorem corn_len (fo : List Nat) (m k : Nat) : (corn fo m k).length = 2 * m := by
  unfold corn
  rw [foldl_len (g := corn1 fo) (fun l a => set2_len ..), List.length_replicate]
theorem acr1_len (ss : List Int) (n : Nat) (l : List Nat) (k : Nat) : (acr1 ss n l k).length = l.length := by
  unfold acr1
  split
  · exact set2_len ..
  · split
    · exact set2_len ..
    · rfl
theorem acrN_len (ss : List Int) (n k : Nat) (l : List Nat) : (acrN ss n k l).length = l.length := foldl_len (fun l a => acr1_len ..) _ _
theorem acr_len (ss : List Int) (m k : Nat) : (acr ss m k).length = 2 * m := by
  unfold acr
  rw [foldl_len (g := fun l n => acrN ss n m l) (fun l a => acrN_len ..), List.length_replicate]
theorem corn_next (fo : List Nat) (m k : Nat) : corn fo m (k + 1) = corn1 fo (corn fo m k) k := by
  unfold corn
  rw [List.range_succ, List.foldl_append]
  rfl
theorem acrN_next (ss : List Int) (n k : Nat) (l : List Nat) : acrN ss n (k + 1) l = acr1 ss n (acrN ss n k l) k := by
  unfold acrN
  rw [List.range_succ, List.foldl_append]
  rfl
theorem acr_next (ss : List Int) (m k : Nat) : acr ss m (k + 1) = acrN ss k m (acr ss m k) := by
  unfold acr
  rw [List.range_succ, List.foldl_append]
  rfl
theorem gFol_snoc (f : List Int) : ∀ (fs : List (List Int)) (b : Nat), gFol b (fs ++ [f]) = gFol b fs ++ (List.range f.length).map (fun n => b + fs.flatten.length + (n + 1) % f.length)
  | [], b => by
    show _ ++ gFol _ [] = _
    rw [show gFol (b + f.length) [] = [] from rfl, List.append_nil]
    rfl
  | g :: fs, b => by
    show _ ++ gFol _ (fs ++ [f]) = (_ ++ _) ++ _
    rw [gFol_snoc f fs, List.append_assoc, List.flatten_cons, List.length_append]
    congr 2
    refine List.map_congr_left fun n _ => ?_
    omega
theorem gFol_len : ∀ (fs : List (List Int)) (b : Nat), (gFol b fs).length = fs.flatten.length
  | [], b => rfl
  | f :: fs, b => by
    show (_ ++ gFol _ fs).length = _
    rw [List.length_append, gFol_len fs, List.length_map, List.length_range, List.flatten_cons, List.length_append]
section
variable {K : PySem.W.Frag} {H : Hp} {v : V}
theorem iv_of {H : Hp} : ∀ {l : List Int} {xs : List V}, DpAll K H xs (l.map .int) → xs = iv l
  | [], _, h => by
    cases h
    rfl
  | i :: l, _, h => by
    cases h with
    | cons h1 h2 => rw [Dp.int_eq h1, iv_of h2]; rfl
theorem dp_ofI {l : List Int} (h : Dp K H v (encI l)) : ∃ a, v = .ref a ∧ SqT K H a (iv l) := by
  cases h with
  | @tup a xs _ h1 h2 => exact ⟨a, rfl, by rw [iv_of h2] at h1; exact h1⟩
theorem dp_ofG {fs : List (List Int)} (h : Dp K H v (encG fs)) : ∃ a xs, v = .ref a ∧ SqT K H a xs ∧ DpAll K H xs (fs.map encI) := by
  cases h with
  | @tup a xs _ h1 h2 => exact ⟨a, xs, rfl, h1, h2⟩
theorem iv_len (l : List Int) : (iv l).length = l.length := List.length_map ..
theorem iv_get {l : List Int} {i : Nat} {x : Int} (h : l[i]? = some x) : (iv l)[i]? = some (.int x) := by
  unfold iv
  rw [List.getElem?_map, h]
  rfl
theorem iv_app (l : List Int) (x : Int) : iv l ++ [.int x] = iv (l ++ [x]) := by simp [iv]
end
section
variable {K : PySem.W.Frag} {σ : L2.St} {H : Hp} {te tv : TE} {D : Ends} {tz : TS} {xs ys : List V}
theorem q_parLL {i j : Nat} (h1 : EvL te σ H xs) (h2 : EvL tv σ H ys)
    (c : ∀ r p H1, H r = none → H p = none → r ≠ p → Ex H H1 → H1 r = some (.lst xs) → H1 p = some (.lst ys) → tz D ((σ.set i (some (.ref r))).set j (some (.ref p))) H1) :
    tSeq (tPar i j (tCons te (tCons tv tNil))) tz D σ H := by
  unfold tSeq tPar tCons
  refine h1 H (Ex.refl H) _ fun r H1 r0 e1 hr => ?_
  refine h2 H1 e1 _ fun p H2 p0 e2 hp => ?_
  have rp : r ≠ p := ne_of_none hr p0
  exact ⟨.ref r, .ref p, rfl, c r p _ r0 (fresh_back e1 p0) rp (e1.trans e2) (e2 _ _ hr) hp⟩
theorem el_nil : EvL (tLst tNil) σ H [] := el_lst ea_nil (by show 0 ≤ 100000; omega)
theorem g_neg {K : PySem.W.Frag} {i : Int} (h : EvG K te σ H (.d (.int i))) : EvG K (tUn (rU fun i => .int (-i)) te) σ H (.d (.int (-i))) := g_un h fun x H1 e hx Q q => by
  cases Dp.int_eq hx
  exact ⟨i, rfl, q _ H1 (Ex.refl H1) (.int _)⟩
/-- a list of noughts -/
theorem el_noughts {ta : TA} {j n : Nat} {vs : List Nat} (h : EvA ta σ H [.int (n : Int)]) (hn : n ≤ 40000) (hw : ∀ x, wipe ((wipe σ vs).set j (some x)) vs = wipe σ vs) : EvL (tLc (iRng1 ta) (gName j) tYes (tC (.int 0)) vs) σ H (nl (List.replicate n 0)) := by
  have z := el_lcR1 (fun _ => true) (fun _ => V.int 0) (n := (n : Int)) (σ := σ) (H := H) (j := j) (vs := vs) (t := tYes) (te := tC (.int 0)) h (by omega) hw (fun i H1 e1 hi => et_yes) (fun i H1 e1 hi _ => ev_c)
  have e : given (n : Int).toNat (fun _ => true) (fun _ => V.int 0) = nl (List.replicate n 0) := by
    rw [bits0]
    unfold given nl
    rw [List.map_map, Int.toNat_natCast, List.filter_eq_self.mpr fun _ _ => rfl]
    rfl
  rw [e] at z
  exact z
end
def farN : Net := [[1, 0, 3, 2], [3, 2, 1, 0], [2, 3, 0, 1]]
def spFar (K : PySem.W.Frag) : Sp := fun vs H Q _ => vs = [nv 4] ∧ RetA K (.d (encNet farN)) H Q
section
variable {K : PySem.W.Frag} {H : Hp}
theorem dp_LI : ∀ {l : List Int}, DpAll K H (iv l) (l.map .int)
  | [] => .nil
  | i :: l => .cons (.int i) (dp_LI (l := l))
theorem dp_LI2 {a : Addr} {l : List Int} (h : H a = some (.lst (iv l))) : Dp K H (.ref a) (.list (l.map .int)) := .lst (sq_of h) dp_LI
theorem int_get {l : List Int} {i : Nat} (h : i < l.length) : (l.map PyData.int)[i]? = some (.int (l.getD i 0)) := by
  rw [List.getElem?_map, List.getD_eq_getElem?_getD, List.getElem?_eq_getElem h]
  rfl
theorem nat_get {l : List Nat} {i : Nat} (h : i < l.length) : l[i]? = some (l.getD i 0) := by
  rw [List.getD_eq_getElem?_getD, List.getElem?_eq_getElem h]
  rfl
theorem getD_mem {l : List Nat} {i : Nat} (h : i < l.length) : l.getD i 0 ∈ l := List.mem_of_getElem? (nat_get h)
end
def spGlue (K : PySem.W.Frag) : Sp := fun vs H Q _ => ∃ (v : V) (fs : List (List Int)), vs = [v] ∧ Dp K H v (encG fs) ∧ fs.flatten.length ≤ 100 ∧ fs.length ≤ 100 ∧ (∀ x ∈ gFol 0 fs, x < fs.flatten.length) ∧ RetA K (.d (encNet (glueN fs))) H Q
section
variable {P : Program} {w : World} {K : PySem.W.Frag} {mg : Str → Option Value} {base : Heap}
theorem sc_law_far_net : FnScope ["_law_many", "_law_row", "_law_flag"] ["_law_many"] (defScope (top 53)) := ⟨rfl, rfl, rfl, by decide +kernel, rfl, by decide +kernel, by decide +kernel⟩
theorem kn_law_far_net (T : Txt K mg) : Kn P w K mg base CX0 1 "_law_far_net" ["_law_many"] (spFar K) := by
  obtain ⟨f, fd, F, hm⟩ := (T.df 42 (p := (53, "_law_far_net")) rfl)
  refine kn_ok F hm sc_law_far_net (fun _ _ _ _ _ _ us hl => match us, hl with | [_], _ => rfl) (fun vs H Q E h => ?_) (fun cdv A outer s H vs Q E hr h => ?_)
  · obtain ⟨rfl, _⟩ := h
    rfl
  · obtain ⟨rfl, q⟩ := h
    refine ⟨_, (pss_cons (ps_set (i := 1) sc_law_far_net.nd rfl (Or.inl rfl) (pe_listRg rfl (by rfl) T.list (prg_1 (by rfl) T.range (pv 0))))
  (pss_one (ps_ret (pe_tup (pa_cons (pe_callTy (cK_tuple (K := K) (by rfl)) (by rfl) T.tuple bt_tuple (pa_cons (pe_lc (own := [("_law_flag", 2)]) (g := (gName 2)) (by rfl) sc_law_far_net.nd (piK_list (K := K) (by rfl) (pv 1)) (blkOk_by (by kernel_rfl)) (fun _ _ _ _ _ => (pg_name (i := 2) sc_law_far_net.nd rfl (by first | exact Or.inl rfl | exact Or.inr rfl))) (fun _ _ _ _ _ => pts_nil) (fun _ _ _ _ _ => (pe_op op_xor (pv 2) pe_int))) pa_nil)) (pa_cons (pe_callTy (cK_tuple (K := K) (by rfl)) (by rfl) T.tuple bt_tuple (pa_cons (pe_lc (own := [("_law_flag", 2)]) (g := (gName 2)) (by rfl) sc_law_far_net.nd (piK_list (K := K) (by rfl) (pv 1)) (blkOk_by (by kernel_rfl)) (fun _ _ _ _ _ => (pg_name (i := 2) sc_law_far_net.nd rfl (by first | exact Or.inl rfl | exact Or.inr rfl))) (fun _ _ _ _ _ => pts_nil) (fun _ _ _ _ _ => (pe_op op_xor (pv 2) pe_int))) pa_nil)) (pa_cons (pe_callTy (cK_tuple (K := K) (by rfl)) (by rfl) T.tuple bt_tuple (pa_cons (pe_lc (own := [("_law_flag", 2)]) (g := (gName 2)) (by rfl) sc_law_far_net.nd (piK_list (K := K) (by rfl) (pv 1)) (blkOk_by (by kernel_rfl)) (fun _ _ _ _ _ => (pg_name (i := 2) sc_law_far_net.nd rfl (by first | exact Or.inl rfl | exact Or.inr rfl))) (fun _ _ _ _ _ => pts_nil) (fun _ _ _ _ _ => (pe_op op_xor (pv 2) pe_int))) pa_nil)) pa_nil))))))), ?_⟩
    refine ⟨nv 4, rfl, 4, rfl, RgOk.of_le (by omega) (by omega) (by omega) (by omega), fun lf hlf => ?_⟩
    have hr0 : rgV 0 4 = nl [0, 1, 2, 3] := rfl
    rw [hr0]
    have hD : Dp K (upd H lf (.lst (nl [0, 1, 2, 3]))) (.ref lf) (encL [0, 1, 2, 3]) := dp_L (sq_of upd_same)
    have four : ∀ {i : Nat} {d : PyData}, ([0, 1, 2, 3].map encN)[i]? = some d → d = encN i ∧ i < 4 := fun {i d} h => by
      have hl := (List.getElem?_eq_some_iff.mp h).1
      have hl : i < 4 := hl
      have : i = 0 ∨ i = 1 ∨ i = 2 ∨ i = 3 := by omega
      rcases this with rfl | rfl | rfl | rfl <;> exact ⟨(Option.some.inj h).symm, by omega⟩
    have row : ∀ (k : Nat) (r : List Nat), (∀ i : Nat, i < 4 → Builtin.bitXor (i : Int) (k : Int) = ((r.getD i 0 : Nat) : Int)) → r.length = 4 → EvG K (tCB (fun xs H Q => ∃ p ys, xs = [.ref p] ∧ ((SqL K H p ys ∧ ∀ l, H l = none → Q (.ref l) (upd H l (.tup ys))) ∨ (SqT K H p ys ∧ Q (.ref p) H))) (tCons (tLc (iList K (tVar 1)) (gName 2) tYes (tOp (rI0 fun i j => .int (Builtin.bitXor i j)) (tVar 2) (tC (.int (k : Int)))) [2]) tNil)) [some (nv 4), some (.ref lf), none] (upd H lf (.lst (nl [0, 1, 2, 3]))) (.d (encR r)) := fun k r hx hl => by
      refine g_is (g_tupOf (g_lcL (j := 2) (vs := [2]) (ds := [0, 1, 2, 3].map encN) (fun _ => true) (fun i => encN (r.getD i 0)) (g_dv (d := encL [0, 1, 2, 3]) rfl hD) (by decide) (fun x => rfl) (fun _ => rfl) (fun i x d H2 e2 hi hx => et_yes) (fun i x d H2 e2 hi hxd _ => ?_))) ?_
      · obtain ⟨rfl, hi4⟩ := four hi
        cases Dp.int_eq hxd
        refine g_is (g_op (g_vn (n := i) rfl) g_int rg_xor) ?_
        rw [hx i hi4]
        rfl
      · show Nk.A.d (.tuple (givenD 4 (fun _ => true) fun i => encN (r.getD i 0))) = _
        rw [givenD_range]
        match r, hl with
        | [a, b, c, d], _ => rfl
    refine retA (K := K) (a := .d (encNet farN)) (g_tup (ds := farN.map encR) (gs_cons (row 1 [1, 0, 3, 2] (by decide +kernel) rfl) (gs_cons (row 3 [3, 2, 1, 0] (by decide +kernel) rfl) (gs_cons (row 2 [2, 3, 0, 1] (by decide +kernel) rfl) gs_nil))) (by show 3 ≤ 100000; omega))
      (fun v H5 e5 hv => q v H5 ((Ex.new hlf).trans e5) hv) rfl
theorem sc_law_glue : FnScope ["_law_gluing", "_law_sides", "_law_follow", "_law_face", "_law_first", "_law_n", "_law_side", "_law_many", "_law_ends", "_law_corners", "_law_across", "_law_k", "_law_flag"] ["_law_gluing"] (defScope (top 54)) := ⟨rfl, rfl, rfl, by decide +kernel, rfl, by decide +kernel, by decide +kernel⟩
theorem kn_law_glue (T : Txt K mg) : Kn P w K mg base CX0 1 "_law_glue" ["_law_gluing"] (spGlue K) := by
  obtain ⟨f, fd, F, hm⟩ := (T.df 43 (p := (54, "_law_glue")) rfl)
  refine kn_ok F hm sc_law_glue (fun _ _ _ _ _ _ us hl => match us, hl with | [_], _ => rfl) (fun vs H Q E h => ?_) (fun cdv A outer s H vs Q E hr h => ?_)
  · obtain ⟨v, fs, rfl, _⟩ := h
    rfl
  · obtain ⟨v, fs, rfl, hd, hl, hf, hlt, q⟩ := h
    refine ⟨_, (pss_cons (ps_par (i := 1) (j := 2) (by rfl) sc_law_glue.nd rfl rfl (by decide) rfl rfl (pa_cons (pe_lst pa_nil) (pa_cons (pe_lst pa_nil) pa_nil)) (by rfl))
  (pss_cons (ps_for PassesOwn.never rfl (piK_tup (K := K) (by rfl) (pv 0)) (pg_name (i := 3) sc_law_glue.nd rfl (by first | exact Or.inl rfl | exact Or.inr rfl))
  (pss_cons (ps_set (i := 4) sc_law_glue.nd rfl (Or.inl rfl) (pe_callB (cK_len (K := K) (by rfl)) (by rfl) T.len bt_len (pa_cons (pv 1) pa_nil)))
  (pss_one (ps_for PassesOwn.never rfl (piK_enumT (K := K) (by rfl) (by rfl) T.enumerate (pa_cons (pv 3) pa_nil)) (pg_tup rfl (pgs_cons (pg_name (i := 5) sc_law_glue.nd rfl (by first | exact Or.inl rfl | exact Or.inr rfl)) (pgs_cons (pg_name (i := 6) sc_law_glue.nd rfl (by first | exact Or.inl rfl | exact Or.inr rfl)) pgs_nil)))
  (pss_cons (ps_expr (pe_bmK (K := K) (by rfl) PySem.F.plainAttrs_list PySem.F.slot_list_append PySem.F.type_list_append mt_append (pv 1) (pa_cons (pv 6) pa_nil)))
  (pss_one (ps_expr (pe_bmK (K := K) (by rfl) PySem.F.plainAttrs_list PySem.F.slot_list_append PySem.F.type_list_append mt_append (pv 2) (pa_cons (pe_op op_add (pv 4) (pe_op op_mod (pe_op op_add (pv 5) pe_int) (pe_callB (cK_len (K := K) (by rfl)) (by rfl) T.len bt_len (pa_cons (pv 3) pa_nil)))) pa_nil)))))))))
  (pss_cons (ps_set (i := 7) sc_law_glue.nd rfl (Or.inl rfl) (pe_callB (cK_len (K := K) (by rfl)) (by rfl) T.len bt_len (pa_cons (pv 1) pa_nil)))
  (pss_cons (ps_set (i := 8) sc_law_glue.nd rfl (Or.inl rfl) (pe_callTy (cK_tuple (K := K) (by rfl)) (by rfl) T.tuple bt_tuple (pa_cons (pe_lc (own := [("_law_flag", 12)]) (g := (gName 12)) (by rfl) sc_law_glue.nd (pi_range1 rfl T.range (pa_cons (pe_op op_mul pe_int (pv 7)) pa_nil)) (blkOk_by (by kernel_rfl)) (fun _ _ _ _ _ => (pg_name (i := 12) sc_law_glue.nd rfl (by first | exact Or.inl rfl | exact Or.inr rfl))) (fun _ _ _ _ _ => pts_nil) (fun _ _ _ _ _ => (pe_ifExp (pt_cmpR op_eq (pe_op op_mod (pv 12) pe_int) pe_int (nomark _)) (pe_op op_add (pv 12) pe_int) (pe_op op_sub (pv 12) pe_int)))) pa_nil)))
  (pss_cons (ps_par (i := 9) (j := 10) (by rfl) sc_law_glue.nd rfl rfl (by decide) rfl rfl (pa_cons (pe_lc (own := [("_law_flag", 12)]) (g := (gName 12)) (by rfl) sc_law_glue.nd (pi_range1 rfl T.range (pa_cons (pe_op op_mul pe_int (pv 7)) pa_nil)) (blkOk_by (by kernel_rfl)) (fun _ _ _ _ _ => (pg_name (i := 12) sc_law_glue.nd rfl (by first | exact Or.inl rfl | exact Or.inr rfl))) (fun _ _ _ _ _ => pts_nil) (fun _ _ _ _ _ => pe_int)) (pa_cons (pe_lc (own := [("_law_flag", 12)]) (g := (gName 12)) (by rfl) sc_law_glue.nd (pi_range1 rfl T.range (pa_cons (pe_op op_mul pe_int (pv 7)) pa_nil)) (blkOk_by (by kernel_rfl)) (fun _ _ _ _ _ => (pg_name (i := 12) sc_law_glue.nd rfl (by first | exact Or.inl rfl | exact Or.inr rfl))) (fun _ _ _ _ _ => pts_nil) (fun _ _ _ _ _ => pe_int)) pa_nil)) (by rfl))
  (pss_cons (ps_for PassesOwn.never rfl (pi_range1 rfl T.range (pa_cons (pv 7) pa_nil)) (pg_name (i := 5) sc_law_glue.nd rfl (by first | exact Or.inl rfl | exact Or.inr rfl))
  (pss_cons (ps_asg (pe_tup (pa_cons (pe_op op_mul pe_int (pe_ix (ixK_list (K := K) (by rfl)) (pv 2) (pv 5) (fun _ _ => rfl))) (pa_cons (pe_op op_add (pe_op op_mul pe_int (pv 5)) pe_int) pa_nil))) (pg_tup rfl (pgs_cons (pg_sub (pv 9) (pe_op op_add (pe_op op_mul pe_int (pv 5)) pe_int) set_list) (pgs_cons (pg_sub (pv 9) (pe_op op_mul pe_int (pe_ix (ixK_list (K := K) (by rfl)) (pv 2) (pv 5) (fun _ _ => rfl))) set_list) pgs_nil))))
  (pss_one (ps_for PassesOwn.never rfl (pi_range1 rfl T.range (pa_cons (pv 7) pa_nil)) (pg_name (i := 11) sc_law_glue.nd rfl (by first | exact Or.inl rfl | exact Or.inr rfl))
  (pss_one (ps_if (PW.pt (pw_and (pt_cmpR op_ne (pv 11) (pv 5) (nomark _)) (pw_and1 (pt_cmpR (opK_eqD (K := K) (by rfl) hr.units) (pe_ix (ixK_list (K := K) (by rfl)) (pv 1) (pv 11) (fun _ _ => rfl)) (pe_ix (ixK_list (K := K) (by rfl)) (pv 1) (pv 5) (fun _ _ => rfl)) (nomark _)))))
  (pss_one (ps_asg (pe_tup (pa_cons (pe_op op_mul pe_int (pv 11)) (pa_cons (pe_op op_add (pe_op op_mul pe_int (pv 11)) pe_int) pa_nil))) (pg_tup rfl (pgs_cons (pg_sub (pv 10) (pe_op op_mul pe_int (pv 5)) set_list) (pgs_cons (pg_sub (pv 10) (pe_op op_add (pe_op op_mul pe_int (pv 5)) pe_int) set_list) pgs_nil)))))
  (pss_one (ps_if (PW.pt (pw_and (pt_cmpR op_ne (pv 11) (pv 5) (nomark _)) (pw_and1 (pt_cmpR (opK_eqD (K := K) (by rfl) hr.units) (pe_ix (ixK_list (K := K) (by rfl)) (pv 1) (pv 11) (fun _ _ => rfl)) (pe_un un_neg (pe_ix (ixK_list (K := K) (by rfl)) (pv 1) (pv 5) (fun _ _ => rfl))) (nomark _)))))
  (pss_one (ps_asg (pe_tup (pa_cons (pe_op op_add (pe_op op_mul pe_int (pv 11)) pe_int) (pa_cons (pe_op op_mul pe_int (pv 11)) pa_nil))) (pg_tup rfl (pgs_cons (pg_sub (pv 10) (pe_op op_mul pe_int (pv 5)) set_list) (pgs_cons (pg_sub (pv 10) (pe_op op_add (pe_op op_mul pe_int (pv 5)) pe_int) set_list) pgs_nil)))))
  pss_nil))))))))
  (pss_one (ps_ret (pe_tup (pa_cons (pv 8) (pa_cons (pe_callTy (cK_tuple (K := K) (by rfl)) (by rfl) T.tuple bt_tuple (pa_cons (pv 9) pa_nil)) (pa_cons (pe_callTy (cK_tuple (K := K) (by rfl)) (by rfl) T.tuple bt_tuple (pa_cons (pv 10) pa_nil)) pa_nil)))))))))))), ?_⟩
    refine q_parLL el_nil el_nil fun a b H1 a0 b0 ab e1 ha hb => ?_
    obtain ⟨va, vx, rfl, hvT, hvD⟩ := dp_ofG hd
    refine q_forT (K := K) (a := va) (xs := vx) (ev_var rfl) (ex_t e1 hvT) (fun i σ2 G => ∃ (y3 y4 y5 y6 : Option V), σ2 = [some (.ref va), some (.ref a), some (.ref b), y3, y4, y5, y6, none, none, none, none, none, none] ∧ Ex H G ∧ G a = some (.lst (iv (fs.take i).flatten)) ∧ G b = some (.lst (nl (gFol 0 (fs.take i)))))
      (fun H2 e2 => ⟨none, none, none, none, rfl, e1.trans e2, e2 _ _ ha, e2 _ _ hb⟩) (fun i σ2 G _ h => by obtain ⟨_, _, _, _, _, e, _⟩ := h; exact ex_t e hvT) (fun i x σ2 G hi h => ?_) (fun σ2 G h => ?_)
    · obtain ⟨y3, y4, y5, y6, rfl, e, ha, hb⟩ := h
      obtain ⟨d, hd, hx⟩ := hvD.getv hi
      obtain ⟨fc, hfc, rfl⟩ := List.getElem?_map .. ▸ hd |> Option.map_eq_some_iff.mp
      obtain ⟨c, rfl, hcH⟩ := dp_ofI hx
      have hc := ex_t e hcH
      show tSeq _ _ _ _ _
      have hil := (List.getElem?_eq_some_iff.mp hfc).1
      have htk : fs.take (i + 1) = fs.take i ++ [fc] := by rw [List.take_add_one, hfc]; rfl
      have hpre : ((fs.take (i + 1)).flatten).length ≤ fs.flatten.length := by
        have z : fs = fs.take (i + 1) ++ fs.drop (i + 1) := (List.take_append_drop _ _).symm
        have z2 := congrArg (fun l => (List.flatten l).length) z
        simp only [List.flatten_append, List.length_append] at z2
        omega
      obtain ⟨m, hm2⟩ : ∃ m, m = ((fs.take i).flatten).length := ⟨_, rfl⟩
      have hfl : m + fc.length ≤ 100 := by
        rw [htk, List.flatten_append, List.length_append] at hpre
        simp only [List.flatten_cons, List.flatten_nil, List.append_nil] at hpre
        omega
      have hgl : (gFol 0 (fs.take i)).length = m := by rw [gFol_len, hm2]
      refine q_asg (v := nv m) (ev_is (ev_lenL (ev_var rfl) (sq_of ha)) (by rw [iv_len, ← hm2]; rfl)) fun G2 e2 => ?_
      have hc2 := ex_t e2 hc
      refine s_enumT (K := K) (a := c) (xs := iv fc) (ea_cons (ev_var rfl) ea_nil) hc2 (fun k σ2 G3 => ∃ (y5 y6 : Option V), σ2 = [some (.ref va), some (.ref a), some (.ref b), some (.ref c), some (nv m), y5, y6, none, none, none, none, none, none] ∧ Ex H G3 ∧ G3 a = some (.lst (iv ((fs.take i).flatten ++ fc.take k))) ∧ G3 b = some (.lst (nl (gFol 0 (fs.take i) ++ (List.range k).map fun n => m + (n + 1) % fc.length))))
        (fun G3 e3 => ⟨y5, y6, rfl, (e.trans e2).trans e3, by rw [List.take_zero, List.append_nil]; exact e3 _ _ (e2 _ _ ha), by rw [List.range_zero, List.map_nil, List.append_nil]; exact e3 _ _ (e2 _ _ hb)⟩)
        (fun k σ2 G3 h => by obtain ⟨_, _, _, z, _⟩ := h; exact ex_t z hcH) (fun k x σ2 G3 G4 hk h e4 => ?_) (fun σ2 G3 h => ?_)
      · obtain ⟨y5, y6, rfl, e3, ha3, hb3⟩ := h
        obtain ⟨sd, hsd, rfl⟩ : ∃ z, fc[k]? = some z ∧ V.int z = x := by
          unfold iv at hk
          rw [List.getElem?_map] at hk
          exact Option.map_eq_some_iff.mp hk
        have hkl := (List.getElem?_eq_some_iff.mp hsd).1
        have lt1 : ((fs.take i).flatten ++ fc.take k).length < 100000 := by
          rw [List.length_append, ← hm2, List.length_take]
          omega
        show tSeq _ _ _ _ _
        refine q_app (v := .int sd) (e4 _ _ ha3) (ev_var rfl) (ev_var rfl) (by rw [iv_len]; exact lt1) fun G5 e5 => ?_
        have ac : a ≠ b := ab
        have hc5 : SqT K (upd G5 a (.lst (iv ((fs.take i).flatten ++ fc.take k) ++ [.int sd]))) c (iv fc) := ex_t (Ex.mut (e3.trans (e4.trans e5)) a0) hcH
        have hb5 : (upd G5 a (.lst (iv ((fs.take i).flatten ++ fc.take k) ++ [.int sd]))) b = some (.lst (nl (gFol 0 (fs.take i) ++ (List.range k).map fun n => m + (n + 1) % fc.length))) := by
          rw [upd_ne ab.symm]
          exact e5 _ _ (e4 _ _ hb3)
        refine appD (v := nv (m + (k + 1) % fc.length)) hb5 (ev_var rfl) (ev_is (ev_op (ev_var (v := nv m) rfl) (ev_op (ev_op (ev_var (v := nv k) rfl) ev_c rv_I0) (ev_lenT (ev_var rfl) hc5) (rv_I (by rw [iv_len]; omega))) rv_I0) ?_) ?_ fun G6 e6 => ?_
        · rw [iv_len]
          rfl
        · rw [nl_len, List.length_append, List.length_map, List.length_range, hgl]
          omega
        · refine ⟨_, _, rfl, Ex.mut ((Ex.mut (e3.trans (e4.trans e5)) a0).trans e6) b0, ?_, ?_⟩
          · rw [upd_ne ab, e6 _ _ upd_same, iv_app, List.append_assoc, List.take_add_one, hsd]
            rfl
          · rw [upd_same, List.range_succ, List.map_append, ← List.append_assoc, nl_app _ (List.map _ [k])]
            rfl
      · obtain ⟨y5, y6, rfl, e3, ha3, hb3⟩ := h
        rw [iv_len] at ha3 hb3
        refine ⟨_, _, _, _, rfl, e3, ?_, ?_⟩
        · rw [htk, List.flatten_append]
          rw [List.take_length] at ha3
          rw [ha3]
          simp
        · rw [htk, gFol_snoc, hb3, hm2]
          simp
    · obtain ⟨y3, y4, y5, y6, rfl, e, ha, hb⟩ := h
      have hxl : vx.length = fs.length := by rw [hvD.length, List.length_map]
      rw [hxl, List.take_length] at ha hb
      obtain ⟨ss, hss⟩ : ∃ ss, ss = fs.flatten := ⟨_, rfl⟩
      obtain ⟨m, hm⟩ : ∃ m, m = fs.flatten.length := ⟨_, rfl⟩
      obtain ⟨fo, hfo⟩ : ∃ fo, fo = gFol 0 fs := ⟨_, rfl⟩
      have hsl : ss.length = m := by rw [hss, hm]
      have hfl : fo.length = m := by rw [hfo, gFol_len, hm]
      have hgn : glueN fs = [ends (2 * m), corn fo m m, acr ss m m] := by rw [hfo, hss, hm]; rfl
      rw [hgn] at q
      rw [← hm] at hl hlt
      rw [← hfo] at hlt hb
      rw [← hss] at ha
      clear hgn hfo hss hd
      refine asgI (n := (m : Int)) (g_is (g_lenL (ds := ss.map .int) (g_dv rfl (dp_LI2 ha))) (by rw [List.length_map, hsl])) fun G1 e1' => ?_
      have e2m : EvG K (tOp (rI CMul fun i j => .int (i * j)) (tC (.int 2)) (tVar 7)) [some (.ref va), some (.ref a), some (.ref b), y3, y4, y5, y6, some (nv m), none, none, none, none, none] G1 (.d (.int ((2 * m : Nat) : Int))) := g_is (g_op g_int (g_vn (n := m) rfl) (rg_mul (.inl ⟨by omega, by omega⟩))) (by push_cast; rfl)
      refine asg (g_ends (n := 2 * m) (f := fun i => if i % 2 = 0 then i + 1 else i - 1) (gs_cons e2m gs_nil) (by omega) (fun x => rfl) (fun i G eG hi => ?_)) fun ve G2 e2 he => ?_
      · refine g_ifE (et_of (K := K) (g_op (g_op (g_vn (n := i) rfl) g_int (rg_mod (by omega))) g_int rg_eqI)) (fun hb => ?_) (fun hb => ?_)
        · have hb := of_decide_eq_true hb
          rw [if_pos (by omega)]
          exact g_is (g_op (g_vn (n := i) rfl) g_int rg_add) rfl
        · have hb := of_decide_eq_false hb
          have hz : ¬ i % 2 = 0 := by omega
          rw [if_neg hz]
          refine g_is (g_op (g_vn (n := i) rfl) g_int rg_sub) ?_
          unfold encN
          congr 2
          omega
      have hee : Dp K G2 ve (encR (ends (2 * m))) := he
      have ha2 := e2 _ _ (e1' _ _ ha)
      have hb2 := e2 _ _ (e1' _ _ hb)
      have eG2 := (e.trans e1').trans e2
      have ev2m : ∀ {σ2 : L2.St} {G : Hp}, σ2[7]? = some (some (nv m)) → Ev (tOp (rI CMul fun i j => .int (i * j)) (tC (.int 2)) (tVar 7)) σ2 G (.int ((2 * m : Nat) : Int)) := fun {σ2 G} h => by
        refine ev_is (ev_op ev_c (ev_var h) (rv_I (.inl ⟨by omega, by omega⟩))) ?_
        show V.int _ = V.int _
        push_cast
        rfl
      refine q_parLL (el_noughts (n := 2 * m) (ea_cons (ev2m rfl) ea_nil) (by omega) (fun x => rfl)) (el_noughts (n := 2 * m) (ea_cons (ev2m rfl) ea_nil) (by omega) (fun x => rfl)) fun c d G3 c0 d0 cd e3 hc hd => ?_
      refine q_forR1 (n := (m : Int)) (ea_cons (ev_var rfl) ea_nil) (by omega) (fun i σ2 G => ∃ (y5 y11 : Option V), σ2 = [some (.ref va), some (.ref a), some (.ref b), y3, y4, y5, y6, some (nv m), some ve, some (.ref c), some (.ref d), y11, none] ∧ Ex G2 G ∧ G c = some (.lst (nl (corn fo m i))) ∧ G d = some (.lst (nl (acr ss m i))))
        (fun G4 e4 => ⟨y5, none, rfl, e3.trans e4, e4 _ _ hc, e4 _ _ hd⟩) (fun n σ2 G4 hi h => ?_) (fun σ2 G4 h => ?_)
      · obtain ⟨y5, y11, rfl, e4, hc4, hd4⟩ := h
        have hn : n < m := by omega
        obtain ⟨x, hx⟩ : ∃ x, x = fo.getD n 0 := ⟨_, rfl⟩
        have hxm : x < m := by rw [hx]; exact hlt _ (getD_mem (by omega))
        have bc : b ≠ c := fun z => by rw [← z, hb2] at c0; cases c0
        have bd : b ≠ d := fun z => by rw [← z, hb2] at d0; cases d0
        have ac : a ≠ c := fun z => by rw [← z, ha2] at c0; cases c0
        have ad : a ≠ d := fun z => by rw [← z, ha2] at d0; cases d0
        have e2n1 : ∀ {σ2 : L2.St} {G : Hp} {j k : Nat}, σ2[j]? = some (some (nv k)) → k < m → Ev (tOp (rI0 fun i j => .int (i + j)) (tOp (rI CMul fun i j => .int (i * j)) (tC (.int 2)) (tVar j)) (tC (.int 1))) σ2 G (.int ((2 * k + 1 : Nat) : Int)) := fun {σ2 G j k} h hk => by
          refine ev_is (ev_op (ev_op ev_c (ev_var h) (rv_I (.inl ⟨by omega, by omega⟩))) ev_c rv_I0) ?_
          show V.int _ = V.int _
          push_cast
          rfl
        have e2n : ∀ {σ2 : L2.St} {G : Hp} {j k : Nat}, σ2[j]? = some (some (nv k)) → k < m → Ev (tOp (rI CMul fun i j => .int (i * j)) (tC (.int 2)) (tVar j)) σ2 G (.int ((2 * k : Nat) : Int)) := fun {σ2 G j k} h hk => by
          refine ev_is (ev_op ev_c (ev_var h) (rv_I (.inl ⟨by omega, by omega⟩))) ?_
          show V.int _ = V.int _
          push_cast
          rfl
        have e2f : ∀ {σ2 : L2.St} {G : Hp}, σ2[2]? = some (some (.ref b)) → σ2[5]? = some (some (nv n)) → G b = some (.lst (nl fo)) → Ev (tOp (rI CMul fun i j => .int (i * j)) (tC (.int 2)) (tOp (rIxL K) (tVar 2) (tVar 5))) σ2 G (.int ((2 * x : Nat) : Int)) := fun {σ2 G} h1 h2 h3 => by
          refine ev_is (ev_op ev_c (ev_ixL (v := nv x) (ev_var h1) (sq_of h3) (ev_var h2) (atI_n (nl_get (by rw [hx]; exact nat_get (by omega))))) (rv_I (.inl ⟨by omega, by omega⟩))) ?_
          show V.int _ = V.int _
          push_cast
          rfl
        have hb4 := e4 _ _ hb2
        refine q_set2 (K := K) (i := 2 * n + 1) (j := 2 * x) (v1 := nv (2 * x)) (v2 := nv (2 * n + 1)) hc4 (e2f rfl rfl hb4) (e2n1 rfl hn) (fun G => ev_var rfl) (e2n1 rfl hn) (fun G eb => e2f rfl rfl (eb _ _ bc hb4)) (by rw [nl_len, corn_len]; omega) (by rw [nl_len, corn_len]; omega) fun G5 e5 => ?_
        have e25 : Ex G2 (upd G5 c (.lst (((nl (corn fo m n)).set (2 * n + 1) (nv (2 * x))).set (2 * x) (nv (2 * n + 1))))) := Ex.mut (e4.trans e5) c0
        have hd5 : (upd G5 c (.lst (((nl (corn fo m n)).set (2 * n + 1) (nv (2 * x))).set (2 * x) (nv (2 * n + 1))))) d = some (.lst (nl (acr ss m n))) := by
          rw [upd_ne (Ne.symm cd)]
          exact e5 _ _ hd4
        have hc5 : (upd G5 c (.lst (((nl (corn fo m n)).set (2 * n + 1) (nv (2 * x))).set (2 * x) (nv (2 * n + 1))))) c = some (.lst (nl (corn fo m (n + 1)))) := by
          rw [upd_same, corn_next, nl_set, nl_set, hx]
          rfl
        generalize (upd G5 c (.lst (((nl (corn fo m n)).set (2 * n + 1) (nv (2 * x))).set (2 * x) (nv (2 * n + 1))))) = G6 at e25 hd5 hc5
        refine s_forR1 (n := (m : Int)) (ea_cons (ev_var rfl) ea_nil) (by omega) (fun k σ2 G => ∃ (y11 : Option V), σ2 = [some (.ref va), some (.ref a), some (.ref b), y3, y4, some (nv n), y6, some (nv m), some ve, some (.ref c), some (.ref d), y11, none] ∧ Ex G2 G ∧ G c = some (.lst (nl (corn fo m (n + 1)))) ∧ G d = some (.lst (nl (acrN ss n k (acr ss m n)))))
          (fun G7 e7 => ⟨y11, rfl, e25.trans e7, e7 _ _ hc5, e7 _ _ hd5⟩) (fun k σ2 G7 hk h => ?_) (fun σ2 G7 h => ?_)
        · obtain ⟨y11, rfl, e7, hc7, hd7⟩ := h
          have hkm : k < m := by omega
          have ha7 := e7 _ _ ha2
          have gs : ∀ {σ2 : L2.St} {G : Hp} {j i : Nat}, σ2[1]? = some (some (.ref a)) → σ2[j]? = some (some (nv i)) → i < m → G a = some (.lst (iv ss)) → EvG K (tOp (rIxL K) (tVar 1) (tVar j)) σ2 G (.d (.int (ss.getD i 0))) := fun {σ2 G j i} h1 h2 h3 h4 =>
            g_ixL (i := i) (g_dv h1 (dp_LI2 h4)) (g_vn h2) (int_get (by omega))
          have hset : ∀ (G8 : Hp), Ex G7 G8 → ∀ u w : Nat, acr1 ss n (acrN ss n k (acr ss m n)) k = ((acrN ss n k (acr ss m n)).set (2 * n) u).set (2 * n + 1) w → ∃ (y11 : Option V), ([some (.ref va), some (.ref a), some (.ref b), y3, y4, some (nv n), y6, some (nv m), some ve, some (.ref c), some (.ref d), some (nv k), none] : L2.St) = [some (.ref va), some (.ref a), some (.ref b), y3, y4, some (nv n), y6, some (nv m), some ve, some (.ref c), some (.ref d), y11, none] ∧ Ex G2 (upd G8 d (.lst (((nl (acrN ss n k (acr ss m n))).set (2 * n) (nv u)).set (2 * n + 1) (nv w)))) ∧ (upd G8 d (.lst (((nl (acrN ss n k (acr ss m n))).set (2 * n) (nv u)).set (2 * n + 1) (nv w)))) c = some (.lst (nl (corn fo m (n + 1)))) ∧ (upd G8 d (.lst (((nl (acrN ss n k (acr ss m n))).set (2 * n) (nv u)).set (2 * n + 1) (nv w)))) d = some (.lst (nl (acrN ss n (k + 1) (acr ss m n)))) := fun G8 e8 u w hh => by
            refine ⟨_, rfl, Ex.mut (e7.trans e8) d0, ?_, ?_⟩
            · rw [upd_ne cd]
              exact e8 _ _ hc7
            · rw [upd_same, acrN_next, hh, nl_set, nl_set]
          refine s_if (b := (!decide ((k : Int) = (n : Int))) && decide (ss.getD k 0 = ss.getD n 0)) (et_and (et_of (K := K) (g_op (g_vn (n := k) rfl) (g_vn (n := n) rfl) rg_neI)) (fun _ => et_of (K := K) (g_op (gs rfl rfl hkm ha7) (gs rfl rfl hn ha7) rg_eqD))) (fun hb8 G8 e8 => ?_) (fun hb8 G8 e8 => ?_)
          · have hcond : k ≠ n ∧ ss.getD k 0 = ss.getD n 0 := by simpa [Int.natCast_inj] using hb8
            refine s_set2 (K := K) (i := 2 * n) (j := 2 * n + 1) (v1 := nv (2 * k)) (v2 := nv (2 * k + 1)) (e8 _ _ hd7) (e2n rfl hkm) (e2n1 rfl hkm) (fun G => ev_var rfl) (e2n rfl hn) (fun G eb => e2n1 rfl hn) (by rw [nl_len, acrN_len, acr_len]; omega) (by rw [nl_len, acrN_len, acr_len]; omega) fun G9 e9 => ?_
            exact hset _ (e8.trans e9) _ _ (if_pos hcond)
          · have hcond : ¬ (k ≠ n ∧ ss.getD k 0 = ss.getD n 0) := by simpa [Int.natCast_inj] using hb8
            refine s_if (b := (!decide ((k : Int) = (n : Int))) && decide (ss.getD k 0 = -ss.getD n 0)) (et_and (et_of (K := K) (g_op (g_vn (n := k) rfl) (g_vn (n := n) rfl) rg_neI)) (fun _ => et_of (K := K) (g_op (gs rfl rfl hkm (e8 _ _ ha7)) (g_neg (gs rfl rfl hn (e8 _ _ ha7))) rg_eqD))) (fun hb9 G9 e9 => ?_) (fun hb9 G9 e9 => ?_)
            · have hcond2 : k ≠ n ∧ ss.getD k 0 = -ss.getD n 0 := by simpa [Int.natCast_inj] using hb9
              refine s_set2 (K := K) (i := 2 * n) (j := 2 * n + 1) (v1 := nv (2 * k + 1)) (v2 := nv (2 * k)) (e9 _ _ (e8 _ _ hd7)) (e2n1 rfl hkm) (e2n rfl hkm) (fun G => ev_var rfl) (e2n rfl hn) (fun G eb => e2n1 rfl hn) (by rw [nl_len, acrN_len, acr_len]; omega) (by rw [nl_len, acrN_len, acr_len]; omega) fun G10 e10 => ?_
              exact hset _ ((e8.trans e9).trans e10) _ _ ((if_neg hcond).trans (if_pos hcond2))
            · have hcond2 : ¬ (k ≠ n ∧ ss.getD k 0 = -ss.getD n 0) := by simpa [Int.natCast_inj] using hb9
              refine ⟨_, rfl, (e7.trans e8).trans e9, e9 _ _ (e8 _ _ hc7), ?_⟩
              rw [acrN_next, show acr1 ss n (acrN ss n k (acr ss m n)) k = acrN ss n k (acr ss m n) from (if_neg hcond).trans (if_neg hcond2)]
              exact e9 _ _ (e8 _ _ hd7)
        · obtain ⟨y11, rfl, e7, hc7, hd7⟩ := h
          rw [Int.toNat_natCast] at hd7
          exact ⟨_, _, rfl, e7, hc7, by rw [acr_next]; exact hd7⟩
      · obtain ⟨y5, y11, rfl, e4, hc4, hd4⟩ := h
        rw [Int.toNat_natCast] at hc4 hd4
        refine retA (K := K) (a := .d (encNet [ends (2 * m), corn fo m m, acr ss m m])) (g_tup (ds := [encR (ends (2 * m)), encR (corn fo m m), encR (acr ss m m)]) (gs_cons (g_dv (d := encR (ends (2 * m))) rfl (hee.mono e4)) (gs_cons (g_tupOf (ds := (corn fo m m).map encN) (g_dv rfl (dp_L (sq_of hc4)))) (gs_cons (g_tupOf (ds := (acr ss m m).map encN) (g_dv rfl (dp_L (sq_of hd4)))) gs_nil))) (by show 3 ≤ 100000; omega))
          (fun v H5 e5 hv => q v H5 ((eG2.trans e4).trans e5) hv) rfl
end
end Nk
/-! ## E3: _law_even_net -/
namespace Nk
open PySem PySem.Spec PyProof.Rows L2 Evl

def gl0 (m : Nat) : List (List Int) := [(List.range m).map fun i => ((1 + i : Nat) : Int), (List.range m).map fun (i : Nat) => -((m : Int) + (i : Int) * (-1))]
def gl1 (m : Nat) : List (List Int) := (List.range m).map fun i => [((1 + i : Nat) : Int), -(((1 + i : Nat) : Int) % (m : Int) + 1)]
def gl2 : Nat → List (List Int)
  | 0 => [[1, 2, -1, -2]]
  | 1 => [[1, 2, -1, 2]]
  | 2 => [[1, 2, 1, 2]]
  | _ => [[1, 3, -2, -3], [2, 4, -1, -4]]
structure GlOk (fs : List (List Int)) : Prop where
  len : fs.flatten.length ≤ 8
  num : fs.length ≤ 8
  fol : ∀ x ∈ gFol 0 fs, x < fs.flatten.length
  three : (glueN fs).length = 3
  rows : ∀ ch ∈ glueN fs, ch.length = 2 * fs.flatten.length
  lts : ∀ ch ∈ glueN fs, ∀ x ∈ ch, x < 2 * fs.flatten.length
  four : 4 ≤ 2 * fs.flatten.length
  inv : ∀ c < 3, ∀ z < 2 * fs.flatten.length, ap (glueN fs) c (ap (glueN fs) c z) = z
  ne : ∀ c < 3, ∀ z < 2 * fs.flatten.length, ap (glueN fs) c z ≠ z
  sq : ∀ f < 2 * fs.flatten.length, ap (glueN fs) 2 (ap (glueN fs) 0 f) = ap (glueN fs) 0 (ap (glueN fs) 2 f)
  apt : ∀ f < 2 * fs.flatten.length, ap (glueN fs) 2 (ap (glueN fs) 0 f) ≠ f
  one : (bfs (glueN fs) (2 * fs.flatten.length) 0).length = 2 * fs.flatten.length
def all3 (p : Nat → Bool) : Bool := p 0 && p 1 && p 2
theorem all3_ok {p : Nat → Bool} (h : all3 p = true) : ∀ c < 3, p c = true := fun c hc => by
  unfold all3 at h
  simp only [Bool.and_eq_true] at h
  have : c = 0 ∨ c = 1 ∨ c = 2 := by omega
  rcases this with rfl | rfl | rfl
  · exact h.1.1
  · exact h.1.2
  · exact h.2
def glB (fs : List (List Int)) : Bool :=
  let n := 2 * fs.flatten.length
  let s := glueN fs
  decide (fs.flatten.length ≤ 8) && decide (fs.length ≤ 8) && decide (∀ x ∈ gFol 0 fs, x < fs.flatten.length) && decide (s.length = 3) && decide (∀ ch ∈ s, ch.length = n) && decide (∀ ch ∈ s, ∀ x ∈ ch, x < n) && decide (4 ≤ n) &&
    all3 (fun c => decide (∀ z < n, ap s c (ap s c z) = z)) && all3 (fun c => decide (∀ z < n, ap s c z ≠ z)) && decide (∀ f < n, ap s 2 (ap s 0 f) = ap s 0 (ap s 2 f)) && decide (∀ f < n, ap s 2 (ap s 0 f) ≠ f) && decide ((bfs s n 0).length = n)
theorem glB_ok {fs : List (List Int)} (h : glB fs = true) : GlOk fs := by
  unfold glB at h
  simp only [Bool.and_eq_true, decide_eq_true_eq] at h
  obtain ⟨⟨⟨⟨⟨⟨⟨⟨⟨⟨⟨a, b⟩, c⟩, d⟩, e⟩, f⟩, g⟩, i⟩, j⟩, k⟩, l⟩, m⟩ := h
  exact ⟨a, b, c, d, e, f, g, fun x hx => of_decide_eq_true (all3_ok i x hx), fun x hx => of_decide_eq_true (all3_ok j x hx), k, l, m⟩
theorem gl_ok : ∀ r < 4, GlOk (gl0 (r + 1)) ∧ GlOk (gl1 (r + 1)) ∧ GlOk (gl2 r) := by
  have h : ∀ r < 4, glB (gl0 (r + 1)) = true ∧ glB (gl1 (r + 1)) = true ∧ glB (gl2 r) = true := by decide +kernel
  exact fun r hr => ⟨glB_ok (h r hr).1, glB_ok (h r hr).2.1, glB_ok (h r hr).2.2⟩
theorem GlOk.good {fs : List (List Int)} (h : GlOk fs) : Good (2 * fs.flatten.length) (glueN fs) :=
  good_of ⟨h.three, h.rows, h.lts⟩ h.four (by have := h.len; omega) h.inv h.ne h.sq h.apt
/-- one part -/
def One (n : Nat) (s : Net) : Prop := ∃ f < n, (bfs s n f).length = n
theorem far_good : Good 4 farN := by
  have h1 : all3 (fun c => decide (∀ z < (4 : Nat), ap farN c (ap farN c z) = z)) = true := by decide +kernel
  have h2 : all3 (fun c => decide (∀ z < (4 : Nat), ap farN c z ≠ z)) = true := by decide +kernel
  exact good_of ⟨rfl, by decide, by decide⟩ (by omega) (by omega) (fun x hx => of_decide_eq_true (all3_ok h1 x hx)) (fun x hx => of_decide_eq_true (all3_ok h2 x hx)) (by decide +kernel) (by decide +kernel)
theorem one_four {s : Net} (G : Good 4 s) : One 4 s := by
  have F := G.toForm
  refine ⟨0, by omega, ?_⟩
  have h := G.four_of (bfs_nodup F (by omega : 0 < 4)) (bfs_lt F (by omega)) (cl_ap F (bfs_closed F (by omega))) (bfs_mem F (by omega))
  have := bfs_len F (by omega : 0 < 4)
  omega
section
variable {K : PySem.W.Frag} {σ : L2.St} {H : Hp} {ta tb te : TE} {D : Ends}
theorem g_tupRg2 {lo n : Nat} (ha : EvG K ta σ H (.d (.int lo))) (hb : EvG K tb σ H (.d (.int ((lo + n : Nat) : Int)))) (hz : lo + n ≤ 1000) : EvG K (tTupRg (tRg2 ta tb)) σ H (.d (encI ((List.range n).map fun i => ((lo + i : Nat) : Int)))) := fun H1 e Q q =>
  ha H1 e _ fun x H2 e2 hx => hb H2 (e.trans e2) _ fun y H3 e3 hy => by
    cases Dp.int_eq hx
    cases Dp.int_eq hy
    refine ⟨(lo : Int), ((lo + n : Nat) : Int), rfl, rfl, RgOk.of_le (by omega) (by omega) (by omega) (by omega), fun p hp => ?_⟩
    refine q _ _ ((e2.trans e3).trans (Ex.new hp)) (.tup (st_of upd_same) ?_)
    have ev : rgV (lo : Int) ((lo + n : Nat) : Int) = iv ((List.range n).map fun i => ((lo + i : Nat) : Int)) := by
      unfold rgV iv
      rw [List.map_map, show (((lo + n : Nat) : Int) - (lo : Int)).toNat = n from by omega]
      refine List.map_congr_left fun i _ => ?_
      show V.int _ = V.int _
      congr 1
    rw [ev]
    exact dp_LI
theorem g_lcDown {tas : TA} {j : Nat} {vs : List Nat} {n : Nat} (D : Nat → PyData) (h : EvGs K tas σ H [.d (.int n), .d (.int 0), .d (.int (-1))]) (hn : n ≤ 40000) (hw : ∀ x, wipe ((wipe σ vs).set j (some x)) vs = wipe σ vs) (hfl : ∀ i, flatT (D i) = true)
    (he : ∀ (i : Nat) H1, Ex H H1 → i < n → EvG K te ((wipe σ vs).set j (some (.int ((n : Int) + (i : Int) * (-1))))) H1 (.d (D i))) :
    EvG K (tLc (iRng3 tas) (gName j) tYes te vs) σ H (.d (.list (givenD n (fun _ => true) D))) := fun H0 e Q q => h H0 e _ fun ws H1 e1 hw1 => by
  match ws, hw1 with
  | [w, w2, w3], hw1 =>
    have h1 := Dp.int_eq hw1.1
    have h2 := Dp.int_eq hw1.2.1
    have h3 := Dp.int_eq hw1.2.2.1
    subst h1 h2 h3
    have hc : RgC (n : Int) 0 (-1) n := by
      have z := RgC.neg (i := (n : Int)) (j := 0) (by omega) (by omega) (by omega) (by omega)
      rwa [show ((n : Int) - 0).toNat = n from by omega] at z
    refine ⟨(n : Int), 0, -1, n, rfl, hc, fun Dl hD => ?_⟩
    refine lc_it walk_rangeC (CwG K H1 (fun _ => true) D Dl) (cwg_start hD) (fun _ _ _ _ => trivial) (fun i x H2 H3 hi p y => ?_) (fun H' p => q _ H' (e1.trans p.2.1) (cwg_done p))
    obtain ⟨rfl, rfl⟩ := y
    exact ⟨hw _, cwg_turn p (by omega) hfl et_yes (fun _ => he i H1 (e.trans e1) hi)⟩
theorem ret_glue {m c g : Addr} {b : Nat} {H0 : Hp} {Q : VK} {fs : List (List Int)} (h : EvG K te σ H (.d (encG fs))) (ok : GlOk fs) (W : Wd m c g b H0 H) (hD : D.rt = Q)
    (q : ∀ v n s H1 H2, Ex H0 H1 → Wd m c g b H1 H2 → Good n s → n ≤ 16 → One n s → Dp K H1 v (encNet s) → Q v H2) : tRet (tCall (spGlue K) [] E0 (tCons te tNil)) D σ H := by
  refine h H (Ex.refl H) _ fun v H2 e2 hv => ?_
  have hl := ok.len
  have hn := ok.num
  refine ⟨v, fs, rfl, hv, by omega, by omega, ok.fol, fun u H3 e3 hu => ?_⟩
  have W3 := (W.step e2).step e3
  have z := q u _ (glueN fs) (cutH m g H3) H3 W3.exc W3.full ok.good (by omega) ⟨0, by have := ok.four; omega, ok.one⟩ (W3.cutT hu (flat_Net _))
  rw [← hD] at z
  exact z
end
def spEven (K : PySem.W.Frag) : Sp := fun vs H Q _ => ∃ (m c g : Addr) (b : Nat) (H0 : Hp), vs = [.ref m] ∧ Wd m c g b H0 H ∧ b + 10 ≤ 1000000 ∧ ∀ v n s H1 H2, Ex H0 H1 → Wd m c g (b + 10) H1 H2 → Good n s → n ≤ 16 → One n s → Dp K H1 v (encNet s) → Q v H2
section
variable {P : Program} {w : World} {K : PySem.W.Frag} {mg : Str → Option Value} {base : Heap}
theorem sc_law_even_net : FnScope ["_law_m", "_law_kind", "_law_many", "_law_n"] ["_law_m"] (defScope (top 55)) := ⟨rfl, rfl, rfl, by decide +kernel, rfl, by decide +kernel, by decide +kernel⟩
theorem kn_law_even_net (T : Txt K mg) (G_law_draw : Kn P w K mg base CX0 2 "_law_draw" ["_law_m", "_law_limit"] spDraw) (G_law_order : Kn P w K mg base CX0 3 "_law_order" ["_law_m", "_law_many"] spOrder) (G_law_numbered : Kn P w K mg base CX0 1 "_law_numbered" ["_law_net_here", "_law_order_here"] (spNum K))
    (G_law_far_net : Kn P w K mg base CX0 1 "_law_far_net" ["_law_many"] (spFar K)) (G_law_glue : Kn P w K mg base CX0 1 "_law_glue" ["_law_gluing"] (spGlue K)) : Kn P w K mg base CX0 4 "_law_even_net" ["_law_m"] (spEven K) := by
  obtain ⟨f, fd, F, hm⟩ := (T.df 44 (p := (55, "_law_even_net")) rfl)
  refine kn_ok F hm sc_law_even_net (fun _ _ _ _ _ _ us hl => match us, hl with | [_], _ => rfl) (fun vs H Q E h => ?_) (fun cdv A outer s H vs Q E hr h => ?_)
  · obtain ⟨m, c, g, b, H0, rfl, _⟩ := h
    rfl
  · obtain ⟨m, c, g, b, H0, rfl, W, hb, q⟩ := h
    refine ⟨_, (pss_cons (ps_asg (pe_tup (pa_cons (pe_kn G_law_draw (hr.mono (by decide)) (by rfl) pass0 (pa_cons (pv 0) (pa_cons pe_int pa_nil))) (pa_cons (pe_op op_add pe_int (pe_kn G_law_draw (hr.mono (by decide)) (by rfl) pass0 (pa_cons (pv 0) (pa_cons pe_int pa_nil)))) pa_nil))) (pg_tup rfl (pgs_cons (pg_name (i := 1) sc_law_even_net.nd rfl (by first | exact Or.inl rfl | exact Or.inr rfl)) (pgs_cons (pg_name (i := 2) sc_law_even_net.nd rfl (by first | exact Or.inl rfl | exact Or.inr rfl)) pgs_nil))))
  (pss_cons (ps_if (pt_cmpR op_eq (pv 1) pe_int (nomark _))
  (pss_one (ps_ret (pe_kn G_law_glue (hr.mono (by decide)) (by rfl) pass0 (pa_cons (pe_tup (pa_cons (pe_tupRg rfl (by rfl) T.tuple (prg_2 (by rfl) T.range pe_int (pe_op op_add (pv 2) pe_int))) (pa_cons (pe_callTy (cK_tuple (K := K) (by rfl)) (by rfl) T.tuple bt_tuple (pa_cons (pe_lc (own := [("_law_n", 3)]) (g := (gName 3)) (by rfl) sc_law_even_net.nd (pi_range3 rfl T.range (pa_cons (pv 2) (pa_cons pe_int (pa_cons (pe_un un_neg pe_int) pa_nil)))) (blkOk_by (by kernel_rfl)) (fun _ _ _ _ _ => (pg_name (i := 3) sc_law_even_net.nd rfl (by first | exact Or.inl rfl | exact Or.inr rfl))) (fun _ _ _ _ _ => pts_nil) (fun _ _ _ _ _ => (pe_un un_neg (pv 3)))) pa_nil)) pa_nil))) pa_nil))))
  pss_nil)
  (pss_cons (ps_if (pt_cmpR op_eq (pv 1) pe_int (nomark _))
  (pss_one (ps_ret (pe_kn G_law_glue (hr.mono (by decide)) (by rfl) pass0 (pa_cons (pe_callTy (cK_tuple (K := K) (by rfl)) (by rfl) T.tuple bt_tuple (pa_cons (pe_lc (own := [("_law_n", 3)]) (g := (gName 3)) (by rfl) sc_law_even_net.nd (pi_range2 rfl T.range (pa_cons pe_int (pa_cons (pe_op op_add (pv 2) pe_int) pa_nil))) (blkOk_by (by kernel_rfl)) (fun _ _ _ _ _ => (pg_name (i := 3) sc_law_even_net.nd rfl (by first | exact Or.inl rfl | exact Or.inr rfl))) (fun _ _ _ _ _ => pts_nil) (fun _ _ _ _ _ => (pe_tup (pa_cons (pv 3) (pa_cons (pe_un un_neg (pe_op op_add (pe_op op_mod (pv 3) (pv 2)) pe_int)) pa_nil))))) pa_nil)) pa_nil))))
  pss_nil)
  (pss_cons (ps_if (pt_cmpR op_eq (pv 1) pe_int (nomark _))
  (pss_one (ps_ret (pe_kn G_law_glue (hr.mono (by decide)) (by rfl) pass0 (pa_cons (pe_ix (ixK_list (K := K) (by rfl)) (pe_lst (pa_cons (pe_tup (pa_cons (pe_tup (pa_cons pe_int (pa_cons pe_int (pa_cons (pe_un un_neg pe_int) (pa_cons (pe_un un_neg pe_int) pa_nil))))) pa_nil)) (pa_cons (pe_tup (pa_cons (pe_tup (pa_cons pe_int (pa_cons pe_int (pa_cons (pe_un un_neg pe_int) (pa_cons pe_int pa_nil))))) pa_nil)) (pa_cons (pe_tup (pa_cons (pe_tup (pa_cons pe_int (pa_cons pe_int (pa_cons pe_int (pa_cons pe_int pa_nil))))) pa_nil)) (pa_cons (pe_tup (pa_cons (pe_tup (pa_cons pe_int (pa_cons pe_int (pa_cons (pe_un un_neg pe_int) (pa_cons (pe_un un_neg pe_int) pa_nil))))) (pa_cons (pe_tup (pa_cons pe_int (pa_cons pe_int (pa_cons (pe_un un_neg pe_int) (pa_cons (pe_un un_neg pe_int) pa_nil))))) pa_nil))) pa_nil))))) (pe_op op_sub (pv 2) pe_int) (fun _ _ => rfl)) pa_nil))))
  pss_nil)
  (pss_one (ps_ret (pe_kn G_law_numbered (hr.mono (by decide)) (by rfl) pass0 (pa_cons (pe_kn G_law_far_net (hr.mono (by decide)) (by rfl) pass0 (pa_cons pe_int pa_nil)) (pa_cons (pe_kn G_law_order (hr.mono (by decide)) (by rfl) pass0 (pa_cons (pv 0) (pa_cons pe_int pa_nil))) pa_nil))))))))), ?_⟩
    refine ⟨.ref m, rfl, m, c, g, b, 4, H0, rfl, by omega, by omega, by omega, W, fun k H1 hk W1 => ?_⟩
    refine ⟨.ref m, rfl, m, c, g, b + 1, 4, H0, rfl, by omega, by omega, by omega, W1, fun r H2 hr2 W2 => ?_⟩
    refine ⟨1, (r : Int), rfl, rfl, sz_of (by show 2 ≤ 100000; omega), fun p hp => ?_⟩
    have W3 := W2.step (Ex.new (o := .tup [nv k, .int (1 + (r : Int))]) hp)
    refine ⟨p, [nv k, .int (1 + (r : Int))], rfl, st_of upd_same, rfl, nv k, [.int (1 + (r : Int))], rfl, .int (1 + (r : Int)), [], rfl, ?_⟩
    generalize upd H2 p (.tup [nv k, .int (1 + (r : Int))]) = H3 at W3
    obtain ⟨mm, hmm⟩ : ∃ mm, mm = r + 1 := ⟨_, rfl⟩
    have em : (1 : Int) + (r : Int) = (mm : Int) := by omega
    rw [em]
    refine ⟨rfl, ?_⟩
    show tSeq _ _ _ [some (.ref m), some (nv k), some (nv mm), none] H3
    have q2 : ∀ v n s H1 H2, Ex H0 H1 → Wd m c g (b + 2) H1 H2 → Good n s → n ≤ 16 → One n s → Dp K H1 v (encNet s) → Q v H2 := fun v n s H1 H2 e1 W1 => q v n s H1 H2 e1 (W1.le (by omega))
    obtain ⟨ok0, ok1, ok2⟩ := gl_ok r hr2
    rw [← hmm] at ok0 ok1
    have hmm4 : 1 ≤ mm ∧ mm ≤ 4 := by omega
    refine q_when (et_of (K := K) (g_op (g_vn (n := k) rfl) g_int rg_eqI)) (fun _ H4 e4 => ?_) (fun k0 H4 e4 => ?_)
    · refine ret_glue (K := K) (fs := gl0 mm) ?_ ok0 (W3.step e4) rfl q2
      refine g_tup (ds := [encI _, encI _]) (gs_cons (g_tupRg2 (lo := 1) (n := mm) g_int (g_is (g_op (g_vn (n := mm) rfl) g_int rg_add) (by congr 2; omega)) (by omega)) (gs_cons (g_is (g_tupOf (g_lcDown (n := mm) (fun i => .int (-((mm : Int) + (i : Int) * (-1)))) (gs_cons (g_vn (n := mm) rfl) (gs_cons g_int (gs_cons (g_neg g_int) gs_nil))) (by omega) (fun x => rfl) (fun _ => rfl) (fun i H5 e5 hi => g_neg (g_vi rfl)))) ?_) gs_nil)) (by show 2 ≤ 100000; omega)
      rw [givenD_range]
      unfold encI
      rw [List.map_map]
      rfl
    refine q_when (et_of (K := K) (g_op (g_vn (n := k) rfl) g_int rg_eqI)) (fun _ H5 e5 => ?_) (fun k1 H5 e5 => ?_)
    · refine ret_glue (K := K) (fs := gl1 mm) ?_ ok1 ((W3.step e4).step e5) rfl q2
      refine g_is (g_tupOf (g_lcR2 (lo := 1) (n := mm) (fun _ => true) (fun i => encI [((1 + i : Nat) : Int), -(((1 + i : Nat) : Int) % (mm : Int) + 1)]) (gs_cons g_int (gs_cons (g_is (g_op (g_vn (n := mm) rfl) g_int rg_add) (by congr 2; omega)) gs_nil)) ⟨by omega, by omega⟩ (fun x => rfl) (fun _ => rfl) (fun i H6 e6 hi => et_yes) (fun i H6 e6 hi _ => ?_))) ?_
      · exact g_tup (ds := [.int _, .int _]) (gs_cons (g_vn (n := 1 + i) rfl) (gs_cons (g_neg (g_op (g_op (g_vn (n := 1 + i) rfl) (g_vn (n := mm) rfl) (rg_mod (by omega))) g_int rg_add)) gs_nil)) (by show 2 ≤ 100000; omega)
      · rw [givenD_range]
        unfold encG gl1
        rw [List.map_map]
        rfl
    refine q_when (et_of (K := K) (g_op (g_vn (n := k) rfl) g_int rg_eqI)) (fun _ H6 e6 => ?_) (fun k2 H6 e6 => ?_)
    · refine ret_glue (K := K) (fs := gl2 r) ?_ ok2 (((W3.step e4).step e5).step e6) rfl q2
      refine g_ixL (i := r) (ds := [encG (gl2 0), encG (gl2 1), encG (gl2 2), encG (gl2 3)]) (g_lst (gs_cons (g_tup (ds := [_]) (gs_cons (g_tup (ds := [.int 1, .int 2, .int (-1), .int (-2)]) (gs_cons g_int (gs_cons g_int (gs_cons (g_neg g_int) (gs_cons (g_neg g_int) gs_nil)))) (by show 4 ≤ 100000; omega)) gs_nil) (by show 1 ≤ 100000; omega)) (gs_cons (g_tup (ds := [_]) (gs_cons (g_tup (ds := [.int 1, .int 2, .int (-1), .int 2]) (gs_cons g_int (gs_cons g_int (gs_cons (g_neg g_int) (gs_cons g_int gs_nil)))) (by show 4 ≤ 100000; omega)) gs_nil) (by show 1 ≤ 100000; omega)) (gs_cons (g_tup (ds := [_]) (gs_cons (g_tup (ds := [.int 1, .int 2, .int 1, .int 2]) (gs_cons g_int (gs_cons g_int (gs_cons g_int (gs_cons g_int gs_nil)))) (by show 4 ≤ 100000; omega)) gs_nil) (by show 1 ≤ 100000; omega)) (gs_cons (g_tup (ds := [_, _]) (gs_cons (g_tup (ds := [.int 1, .int 3, .int (-2), .int (-3)]) (gs_cons g_int (gs_cons g_int (gs_cons (g_neg g_int) (gs_cons (g_neg g_int) gs_nil)))) (by show 4 ≤ 100000; omega)) (gs_cons (g_tup (ds := [.int 2, .int 4, .int (-1), .int (-4)]) (gs_cons g_int (gs_cons g_int (gs_cons (g_neg g_int) (gs_cons (g_neg g_int) gs_nil)))) (by show 4 ≤ 100000; omega)) gs_nil)) (by show 2 ≤ 100000; omega)) gs_nil)))) (by show 4 ≤ 100000; omega)) (g_is (g_op (g_vn (n := mm) rfl) g_int rg_sub) (by congr 2; omega)) ?_
      have : r = 0 ∨ r = 1 ∨ r = 2 ∨ r = 3 := by omega
      rcases this with rfl | rfl | rfl | rfl <;> rfl
    have W6 := ((W3.step e4).step e5).step e6
    refine ⟨rfl, fun v8 G8 e8 hv8 => ?_⟩
    have W8 := W6.step e8
    have hv8 : Dp K G8 v8 (encNet farN) := hv8
    have hvF : Dp K (cutH m g G8) v8 (encNet farN) := W8.cutT hv8 (flat_Net _)
    refine ⟨.ref m, rfl, m, c, g, b + 2, 4, cutH m g G8, rfl, W8.full, by omega, by omega, fun p row H1 H2 hperm ex1 hrow WO => ?_⟩
    have hrD : Dp K H2 (.ref p) (encL row) := dp_L (sq_of (WO.ex _ _ hrow))
    obtain ⟨r1, r2, r3, r4⟩ := perm_row far_good.toForm hperm
    refine ⟨v8, .ref p, 4, farN, row, rfl, hvF.mono (ex1.trans WO.ex), hrD, far_good.toForm, by omega, r1, r2, r3, fun v9 H9 e9 hv9 => ?_⟩
    have W9 := WO.step e9
    have gd := good_order far_good hperm
    exact q v9 4 (renum farN row) (cutH m g H9) H9 ((W8.exc.trans ex1).trans W9.exc) (W9.full.le (by omega)) gd (by omega) (one_four gd) (W9.cutT hv9 (flat_Net _))
end
end Nk
/-! ## E4: dict(d), d.update(e), _law_fresh -/
namespace Nk
open PySem PySem.Spec PyProof.Rows L2 Evl

theorem mergeK_kp : ∀ {ps im : List (Nat × Nat)}, ((im ++ ps).map (·.1)).Nodup → mergeK (kp im) (kp ps) = kp (im ++ ps)
  | [], im, _ => by
    show kp im = _
    rw [List.append_nil]
  | (a, b) :: ps, im, h => by
    show mergeK (putK (kp im) (Sum.inl (a : Int)) (nv b)) (kp ps) = _
    have hn : a ∉ im.map (·.1) := fun hm => by
      rw [List.map_append] at h
      exact (List.nodup_append.mp h).2.2 a hm a (by simp) rfl
    have e : putK (kp im) (Sum.inl (a : Int)) (nv b) = kp (im ++ [(a, b)]) := putK_kp (lk_none.mpr hn)
    rw [e, mergeK_kp (by rwa [List.append_assoc])]
    simp
/-- what _law_fresh says -/
def freshB (im ps : List (Nat × Nat)) : Bool := decide ((ps.map (·.2)).Nodup) && decide (∀ y ∈ ps.map (·.2), y ∉ im.map (·.2))
def spFresh (K : PySem.W.Frag) : Sp := fun vs H Q _ => ∃ (a b : Addr) (n m : Nat) (im ps : List (Nat × Nat)), vs = [.ref a, .ref b] ∧ H a = some (.dK (kp im)) ∧ H b = some (.dK (kp ps)) ∧ MOk n m im ∧ MOk n m ps ∧ n ≤ 1000 ∧ ps ≠ [] ∧ ∀ H', Ex H H' → Q (.bl (freshB im ps)) H'
section
variable {K : PySem.W.Frag} {σ : L2.St} {H : Hp}
theorem ex_back {d : Addr} {u : HO} {H1 H2 : Hp} (hd : H1 d = some u) (e : ExBut d H1 H2) : Ex H1 (upd H2 d u) := fun a o h => by
  by_cases z : a = d
  · rw [z, hd] at h
    rw [z, upd_same, ← h]
  · rw [upd_ne z]
    exact e a o z h
/-- [d[k] for k in d] -/
theorem el_vals {i j : Nat} {d : Addr} {ps : List (Nat × Nat)} {n m : Nat} {vs : List Nat} (hs : σ[i]? = some (some (.ref d))) (ok : MOk n m ps) (hd : H d = some (.dK (kp ps))) (hz : ps.length ≤ 10000) (hw : ∀ x, wipe ((wipe σ vs).set j (some x)) vs = wipe σ vs)
    (hi : ∀ x, ((wipe σ vs).set j (some x))[i]? = some (some (.ref d))) (hj : ∀ x, ((wipe σ vs).set j (some x))[j]? = some (some x)) : EvL (tLockE (tLc (iKeys (tVar i)) (gName j) tYes (tDGet (tVar i) (tVar j)) vs)) σ H (nl (ps.map (·.2))) := fun H1 e Q q => by
  have hd1 := e _ _ hd
  refine ⟨d, _, hd1, trivial, fun od => ?_⟩
  refine ⟨.ref d, hs, d, od, rfl, .inl ⟨kp ps, upd_same, fun Dl hD => ?_⟩⟩
  have ne : Dl ≠ d := fun z => by rw [z, upd_same] at hD; cases hD
  have hD1 : H1 Dl = none := by rwa [upd_ne ne] at hD
  refine lc_it walk_keys (fun k H' => H' d = some (.frz od (.dK (kp ps))) ∧ H' Dl = some (.lst (nl ((ps.take k).map (·.2)))) ∧ ExBut d H1 H') ⟨by rw [upd_ne (Ne.symm ne)]; exact upd_same, by rw [upd_same]; rfl, fun a o hne h => ?_⟩ (fun k H' _ p => p.1) (fun k x H2 H3 hk p y => ?_) (fun H' p => ?_)
  · have : a ≠ Dl := fun z => by rw [z, hD1] at h; cases h
    rw [upd_ne this, upd_ne hne]
    exact h
  · obtain ⟨p1, p2, p3⟩ := p
    obtain ⟨rfl, kk, v, hkv, rfl⟩ := y
    rw [kp_len] at hk
    obtain ⟨⟨a, b⟩, hab⟩ : ∃ z, ps[k]? = some z := ⟨_, List.getElem?_eq_getElem hk⟩
    have hkp : (kp ps)[k]? = some (Sum.inl (a : Int), nv b) := by unfold kp; rw [List.getElem?_map, hab]; rfl
    rw [hkp] at hkv
    have hkv := Option.some.inj hkv
    obtain ⟨rfl, rfl⟩ := Prod.mk.inj hkv
    refine ⟨hw _, ?_⟩
    show tDGet (tVar i) (tVar j) _ _ _
    refine ⟨.ref d, hi _, .int (a : Int), hj _, d, nv b, rfl, .inl ⟨kp ps, Sum.inl (a : Int), .inr ⟨od, p1⟩, rfl, by rw [valV_kp, lk_at ok hab]; rfl⟩, ?_⟩
    refine ⟨_, p2, by rw [nl_len, List.length_map, List.length_take, sizeLine_eq]; omega, by rw [upd_ne (Ne.symm ne)]; exact p1, ?_, ?_⟩
    · rw [upd_same, List.take_add_one, hab, List.map_append, nl_app]
      rfl
    · exact fun a o hne h => by
        have : a ≠ Dl := fun z => by rw [z, hD1] at h; cases h
        rw [upd_ne this]
        exact p3 a o hne h
  · obtain ⟨p1, p2, p3⟩ := p
    refine ⟨p1, q Dl _ hD1 (ex_back hd1 p3) ?_⟩
    rw [upd_ne ne, p2, kp_len, List.take_length]
theorem rg_inL {a : Nat} {l : List Nat} : RG K (rIn K false) H (.d (encN a)) (.d (encL l)) (.d (.bool (decide (a ∈ l)))) := fun x y H1 e hx hy Q q => by
  cases Dp.int_eq hx
  obtain ⟨c, rfl, hc⟩ := dp_ofL hy
  refine ⟨c, nl l, rfl, .inl hc, rfl, ?_, ?_⟩
  · unfold nl
    rw [List.all_map]
    exact List.all_eq_true.mpr fun _ _ => rfl
  · have : inV (.int (a : Int)) (nl l) = decide (a ∈ l) := inV_nat a l
    rw [this]
    exact q _ H1 (Ex.refl H1) (.bl _)
theorem rg_eqNil {ds : List PyData} (hs : SeqAt.shaped (.list ds) = true) : RG K (rEqD K) H (.d (.list ds)) (.d (.list [])) (.d (.bool (PyData.eqv (.list ds) (.list [])))) := fun x y H1 e hx hy Q q => ⟨_, _, hx, hy, hs, by decide +kernel, q _ H1 (Ex.refl H1) (.bl _)⟩
theorem adj_nodup : ∀ {l : List Nat}, l.Pairwise (· ≤ ·) → ((∀ i < l.length - 1, l.getD i 0 ≠ l.getD (i + 1) 0) ↔ l.Nodup)
  | [], _ => by simp
  | [a], _ => by simp
  | a :: b :: l, h => by
    obtain ⟨h1, h2⟩ := List.pairwise_cons.mp h
    have ih := adj_nodup h2
    constructor
    · intro g
      have nd := ih.mp fun i hi => g (i + 1) (by simp only [List.length_cons] at hi ⊢; omega)
      refine List.nodup_cons.mpr ⟨fun hm => ?_, nd⟩
      have hab : a ≠ b := g 0 (by simp only [List.length_cons]; omega)
      have h3 := h1 b List.mem_cons_self
      rcases List.mem_cons.mp hm with e | hm
      · exact hab e
      · have h4 := (List.pairwise_cons.mp h2).1 a hm
        omega
    · intro nd i hi
      cases i with
      | zero => exact fun e => (List.nodup_cons.mp nd).1 (by
          have e : a = b := e
          rw [e]
          exact List.mem_cons_self)
      | succ i => exact ih.mpr (List.nodup_cons.mp nd).2 i (by simp only [List.length_cons] at hi ⊢; omega)
variable {P : Program} {w : World} {mg : Str → Option Value} {base : Heap}
theorem sc_law_fresh : FnScope ["_law_images", "_law_told", "_law_row", "_law_taken", "_law_flag", "_law_n", "_law_one"] ["_law_images", "_law_told"] (defScope (top 59)) := ⟨rfl, rfl, rfl, by decide +kernel, rfl, by decide +kernel, by decide +kernel⟩
theorem kn_law_fresh (T : Txt K mg) : Kn P w K mg base CX0 1 "_law_fresh" ["_law_images", "_law_told"] (spFresh K) := by
  obtain ⟨f, fd, F, hm⟩ := (T.df 48 (p := (59, "_law_fresh")) rfl)
  refine kn_ok F hm sc_law_fresh (fun _ _ _ _ _ _ us hl => match us, hl with | [_, _], _ => rfl) (fun vs H Q E h => ?_) (fun cdv A outer s H vs Q E hr h => ?_)
  · obtain ⟨a, b, n, m, im, ps, rfl, _⟩ := h
    rfl
  · obtain ⟨a, b, n, m, im, ps, rfl, ha, hb, oka, okb, hn, hne, q⟩ := h
    refine ⟨_, (pss_cons (ps_set (i := 2) sc_law_fresh.nd rfl (Or.inr rfl) (pe_callB (cK_sortedI (K := K) (by rfl)) (by rfl) T.sorted bt_sorted (pa_cons (pe_lock (pe_lc (own := [("_law_flag", 4)]) (g := (gName 4)) (by rfl) sc_law_fresh.nd (pi_keys (pv 1)) (blkOk_by (by kernel_rfl)) (fun _ _ _ _ _ => (pg_name (i := 4) sc_law_fresh.nd rfl (by first | exact Or.inl rfl | exact Or.inr rfl))) (fun _ _ _ _ _ => pts_nil) (fun _ _ _ _ _ => (pe_dget (hu_of hr) (pv 1) (pv 4) (fun _ _ => rfl))))) pa_nil)))
  (pss_cons (ps_set (i := 3) sc_law_fresh.nd rfl (Or.inr rfl) (pe_lock (pe_lc (own := [("_law_flag", 4)]) (g := (gName 4)) (by rfl) sc_law_fresh.nd (pi_keys (pv 0)) (blkOk_by (by kernel_rfl)) (fun _ _ _ _ _ => (pg_name (i := 4) sc_law_fresh.nd rfl (by first | exact Or.inl rfl | exact Or.inr rfl))) (fun _ _ _ _ _ => pts_nil) (fun _ _ _ _ _ => (pe_dget (hu_of hr) (pv 0) (pv 4) (fun _ _ => rfl))))))
  (pss_one (ps_ret (pe_and (pe_cmpR (opK_eqD (K := K) (by rfl) hr.units) (pe_lc (own := [("_law_n", 5)]) (g := (gName 5)) (by rfl) sc_law_fresh.nd (pi_range1 rfl T.range (pa_cons (pe_op op_sub (pe_callB (cK_len (K := K) (by rfl)) (by rfl) T.len bt_len (pa_cons (pv 2) pa_nil)) pe_int) pa_nil)) (blkOk_by (by kernel_rfl)) (fun _ _ _ _ _ => (pg_name (i := 5) sc_law_fresh.nd rfl (by first | exact Or.inl rfl | exact Or.inr rfl))) (fun _ _ _ _ _ => (pts_one (pt_cmpR op_eq (pe_ix (ixK_list (K := K) (by rfl)) (pv 2) (pv 5) (fun _ _ => rfl)) (pe_ix (ixK_list (K := K) (by rfl)) (pv 2) (pe_op op_add (pv 5) pe_int) (fun _ _ => rfl)) (nomark _)))) (fun _ _ _ _ _ => pe_int)) (pe_lst pa_nil) (nomark _)) (pe_one (pe_cmpR (opK_eqD (K := K) (by rfl) hr.units) (pe_lc (own := [("_law_one", 6)]) (g := (gName 6)) (by rfl) sc_law_fresh.nd (piK_list (K := K) (by rfl) (pv 2)) (blkOk_by (by kernel_rfl)) (fun _ _ _ _ _ => (pg_name (i := 6) sc_law_fresh.nd rfl (by first | exact Or.inl rfl | exact Or.inr rfl))) (fun _ _ _ _ _ => (pts_one (pt_cmpR (opK_in (K := K) (by rfl)) (pv 6) (pv 3) (by rfl)))) (fun _ _ _ _ _ => pe_int)) (pe_lst pa_nil) (nomark _)))))))), ?_⟩
    have la := oka.len
    have lb := okb.len
    have lp : 0 < ps.length := List.length_pos_iff.mpr hne
    refine q_asgL (el_sorted (el_vals rfl okb hb (by omega) (fun x => rfl) (fun x => rfl) (fun x => rfl))) fun r H1 r0 e1 hr => ?_
    refine q_asgL (el_vals rfl oka (e1 _ _ ha) (by omega) (fun x => rfl) (fun x => rfl) (fun x => rfl)) fun t H2 t0 e2 ht => ?_
    obtain ⟨rw', hrw⟩ : ∃ z, z = srt (ps.map (·.2)) := ⟨_, rfl⟩
    rw [← hrw] at hr
    have hrl : rw'.length = ps.length := by rw [hrw, srt_len, List.length_map]
    have hr2 := e2 _ _ hr
    have e12 := e1.trans e2
    have hn1 : EvG K (tOp (rI0 fun i j => .int (i - j)) (tCB (fun xs H Q => ∃ p ys, xs = [.ref p] ∧ (SqL K H p ys ∨ SqT K H p ys) ∧ Q (.int ys.length) H) (tCons (tVar 2) tNil)) (tC (.int 1))) [some (.ref a), some (.ref b), some (.ref r), some (.ref t), none, none, none] H2 (.d (.int ((rw'.length - 1 : Nat) : Int))) :=
      g_is (g_op (g_lenL (ds := rw'.map encN) (g_dv rfl (dp_L (sq_of hr2)))) g_int rg_sub) (by rw [List.length_map]; congr 2; omega)
    have gat : ∀ {σ2 : L2.St} {G : Hp} {te : TE} {i : Nat}, σ2[2]? = some (some (.ref r)) → Ex H2 G → i < rw'.length → EvG K te σ2 G (.d (.int (i : Int))) → EvG K (tOp (rIxL K) (tVar 2) te) σ2 G (.d (.int ((rw'.getD i 0 : Nat) : Int))) := fun {σ2 G te i} h1 eG hi hte =>
      g_ixL (i := i) (g_dv (d := encL rw') h1 (dp_L (sq_of (eG _ _ hr2)))) hte (encR_get (nat_get hi))
    refine retA (K := K) (a := .d (.bool (freshB im ps))) (g_is (g_andV (g_op (g_lcR1 (n := rw'.length - 1) (fun i => decide (rw'.getD i 0 = rw'.getD (i + 1) 0)) (fun _ => .int 1) (gs_cons hn1 gs_nil) (by omega) (fun _ => rfl) (fun _ => rfl) (fun i H5 e5 hi => ?_) (fun i H5 e5 hi _ => g_int)) g_nil (rg_eqNil shaped_ones))
      (fun _ => g_op (g_lcL (ds := rw'.map encN) (fun i => decide (rw'.getD i 0 ∈ im.map (·.2))) (fun _ => .int 1) (g_dv (d := encL rw') rfl (dp_L (sq_of hr2))) (by rw [List.length_map]; omega) (fun _ => rfl) (fun _ => rfl) (fun i x d H5 e5 hi hx => ?_) (fun i x d H5 e5 hi hx _ => g_int)) g_nil (rg_eqNil shaped_ones))) ?_) (fun v H5 e5 hv => ?_) rfl
    · refine et_is (et_of (K := K) (g_op (gat rfl e5 (by omega) (g_vn (n := i) rfl)) (gat (i := i + 1) rfl e5 (by omega) (g_is (g_op (g_vn (n := i) rfl) g_int rg_add) rfl)) rg_eqI)) ?_
      rw [decide_eq_decide]
      omega
    · obtain ⟨y, hy, rfl⟩ := encR_of hi
      cases Dp.int_eq hx
      rw [getD_of hy]
      exact et_of (K := K) (g_op (g_vn (n := y) rfl) (g_dv (d := encL (im.map (·.2))) rfl (dp_L (sq_of (e5 _ _ ht)))) rg_inL)
    · rw [eqv_nil, eqv_nil]
      unfold freshB
      have h1 : decide (∀ i < rw'.length - 1, decide (rw'.getD i 0 = rw'.getD (i + 1) 0) = false) = decide ((ps.map (·.2)).Nodup) := by
        rw [decide_eq_decide, ← (srt_perm (ps.map (·.2))).nodup_iff, ← hrw, ← adj_nodup (by rw [hrw]; exact srt_le _)]
        simp only [decide_eq_false_iff_not]
      have h2 : decide (∀ i < (rw'.map encN).length, decide (rw'.getD i 0 ∈ im.map (·.2)) = false) = decide (∀ y ∈ ps.map (·.2), y ∉ im.map (·.2)) := by
        rw [decide_eq_decide]
        simp only [decide_eq_false_iff_not, List.length_map]
        constructor
        · intro g y hy
          have hy2 : y ∈ rw' := by rw [hrw, mem_srt]; exact hy
          obtain ⟨i, hi⟩ := List.mem_iff_getElem?.mp hy2
          have := g i (List.getElem?_eq_some_iff.mp hi).1
          rwa [getD_of hi] at this
        · intro g i hi
          exact g _ (by rw [← mem_srt, ← hrw]; exact getD_mem hi)
      rw [h1, h2]
    · cases hv
      exact q H5 (e12.trans e5)
end
end Nk
/-! ## E5: all likenesses, plain -/
namespace Nk
open PySem PySem.Spec PyProof.Rows L2 Evl

abbrev Im := List (Nat × Nat)
def extY (s t : Net) (n x : Nat) (im : Im) (y : Nat) : Option Im := match mtch s t n x y with
  | some ps => if freshB im ps = true then some (im ++ ps) else none
  | none => none
def ext1 (s t : Net) (n m x : Nat) (im : Im) : List Im := (List.range m).filterMap (extY s t n x im)
def allStep (s t : Net) (n m : Nat) (ims : List Im) (r : List Nat) : List Im := ims.flatMap (ext1 s t n m (r.headD 0))
def allTo (s t : Net) (n m i : Nat) : List Im := ((partsOf s n).take i).foldl (allStep s t n m) [[]]
def rowOf (n : Nat) (im : Im) : List Nat := (List.range n).map fun f => (lk im f).getD 0
def allRows (s t : Net) (n m : Nat) : List (List Nat) := if n ≠ m then [] else ((allTo s t n m (partsOf s n).length).map (rowOf n)).mergeSort (PySem.W.dataLe false encR)
def bnd (m : Nat) : Nat → Nat
  | 0 => 1
  | i + 1 => bnd m i * (m - 4 * i)
theorem allTo_succ {s t : Net} {n m i : Nat} {r : List Nat} (h : (partsOf s n)[i]? = some r) : allTo s t n m (i + 1) = allStep s t n m (allTo s t n m i) r := by
  unfold allTo
  rw [List.take_add_one, h, List.foldl_append]
  rfl
structure ImOk (n m : Nat) (ks : List Nat) (im : Im) : Prop where
  ok : MOk n m im
  keys : im.map (·.1) = ks
  vals : (im.map (·.2)).Nodup
theorem part_head {n : Nat} {s : Net} (B : Back n s) {r : List Nat} (hr : r ∈ partsOf s n) : r.headD 0 < n ∧ r = bfs s n (r.headD 0) := by
  obtain ⟨f, hf, rfl, _⟩ := (partsOf_inv B).row r hr
  obtain ⟨t, ht⟩ := bfs_head B.toForm hf
  have : (bfs s n f).headD 0 = f := by rw [ht]; rfl
  rw [this]
  exact ⟨hf, rfl⟩
theorem extY_ok {n m x y : Nat} {s t : Net} (F : Form n s) (G : Form m t) (hx : x < n) (hy : y < m) {ks : List Nat} {im im' : Im} (h : ImOk n m ks im) (hd : ∀ z ∈ ks, z ∉ bfs s n x) (e : extY s t n x im y = some im') : ImOk n m (ks ++ bfs s n x) im' ∧ y ∉ im.map (·.2) := by
  unfold extY at e
  cases hm : mtch s t n x y with
  | none =>
    rw [hm] at e
    cases e
  | some ps =>
    rw [hm] at e
    by_cases hf : freshB im ps = true
    · have e : (if freshB im ps = true then some (im ++ ps) else none) = some im' := e
      rw [if_pos hf] at e
      have e := Option.some.inj e
      subst e
      obtain ⟨ok, r, hr⟩ := mtch_ok F G hx hy hm
      have hk := mtch_keys F.three hm
      unfold freshB at hf
      rw [Bool.and_eq_true, decide_eq_true_eq, decide_eq_true_eq] at hf
      obtain ⟨f1, f2⟩ := hf
      have hnk : ((im ++ ps).map (·.1)).Nodup := by
        rw [List.map_append]
        refine List.nodup_append.mpr ⟨h.ok.nd, ok.nd, fun a ha b hb q => ?_⟩
        rw [h.keys] at ha
        rw [hk] at hb
        exact hd a ha (q ▸ hb)
      refine ⟨⟨⟨hnk, fun p hp => ?_⟩, by rw [List.map_append, h.keys, hk], ?_⟩, fun hm => ?_⟩
      · rcases List.mem_append.mp hp with hp | hp
        · exact h.ok.lt p hp
        · exact ok.lt p hp
      · rw [List.map_append]
        exact List.nodup_append.mpr ⟨h.vals, f1, fun a ha b hb q => f2 b hb (q ▸ ha)⟩
      · exact f2 y (by rw [hr]; simp) hm
    · have e : (if freshB im ps = true then some (im ++ ps) else none) = some im' := e
      rw [if_neg hf] at e
      cases e
theorem cnt_free {m : Nat} {l : List Nat} (nd : l.Nodup) (lt : ∀ z ∈ l, z < m) : ((List.range m).filter fun y => !decide (y ∈ l)).length + l.length ≤ m := by
  have h : ((List.range m).filter (fun y => !decide (y ∈ l)) ++ l).Nodup := List.nodup_append.mpr ⟨List.nodup_range.sublist List.filter_sublist, nd, fun a ha b hb q => by
    have := (List.mem_filter.mp ha).2
    rw [q] at this
    simp [hb] at this⟩
  have := nodup_le h fun z hz => by
    rcases List.mem_append.mp hz with hz | hz
    · exact List.mem_range.mp (List.mem_filter.mp hz).1
    · exact lt z hz
  rwa [List.length_append] at this
theorem filterMap_le {α β : Type} {g : α → Option β} {p : α → Bool} : ∀ {L : List α}, (∀ y ∈ L, ∀ b, g y = some b → p y = true) → (L.filterMap g).length ≤ (L.filter p).length
  | [], _ => by simp
  | a :: L, h => by
    have ih := filterMap_le (g := g) (p := p) (L := L) fun y hy => h y (List.mem_cons_of_mem _ hy)
    cases hg : g a with
    | none =>
      rw [List.filterMap_cons_none hg]
      refine Nat.le_trans ih ?_
      rw [List.filter_cons]
      split
      · exact Nat.le_succ _
      · exact Nat.le_refl _
    | some b =>
      rw [List.filterMap_cons_some hg, List.filter_cons, if_pos (h a List.mem_cons_self b hg)]
      simpa using ih
theorem ImOk.len {n m : Nat} {ks : List Nat} {im : Im} (h : ImOk n m ks im) : im.length = ks.length := by rw [← h.keys, List.length_map]
theorem ext_le {n m x k : Nat} {s t : Net} (F : Form n s) (G : Form m t) (hx : x < n) {ks : List Nat} {im : Im} (h : ImOk n m ks im) (hd : ∀ z ∈ ks, z ∉ bfs s n x) (hk : k ≤ m) : ((List.range k).filterMap (extY s t n x im)).length ≤ m - ks.length := by
  have h1 := cnt_free (m := m) h.vals fun z hz => by
    obtain ⟨p, hp, rfl⟩ := List.mem_map.mp hz
    exact (h.ok.lt p hp).2
  have h2 := filterMap_le (g := extY s t n x im) (p := fun y => !decide (y ∈ im.map (·.2))) (L := List.range k) fun y hy b hb => by
    have := (extY_ok F G hx (Nat.lt_of_lt_of_le (List.mem_range.mp hy) hk) h hd hb).2
    simp only [Bool.not_eq_true', decide_eq_false_iff_not]
    exact this
  have h3 : ((List.range k).filter fun y => !decide (y ∈ im.map (·.2))).length ≤ ((List.range m).filter fun y => !decide (y ∈ im.map (·.2))).length :=
    ((List.range_sublist.mpr hk).filter _).length_le
  rw [List.length_map, h.len] at h1
  omega
theorem flatMap_le {α β : Type} {g : α → List β} {c : Nat} : ∀ {L : List α}, (∀ y ∈ L, (g y).length ≤ c) → (L.flatMap g).length ≤ L.length * c
  | [], _ => by simp
  | a :: L, h => by
    have ih := flatMap_le (g := g) (c := c) (L := L) fun y hy => h y (List.mem_cons_of_mem _ hy)
    have h0 := h a List.mem_cons_self
    rw [List.flatMap_cons, List.length_append, List.length_cons, Nat.add_mul]
    omega
theorem parts_take {n i : Nat} {s : Net} (B : Back n s) {r : List Nat} (h : (partsOf s n)[i]? = some r) : ∀ z ∈ ((partsOf s n).take i).flatten, z ∉ bfs s n (r.headD 0) := by
  intro z hz hb
  have hr := List.mem_of_getElem? h
  obtain ⟨_, e⟩ := part_head B hr
  rw [← e] at hb
  have nd := (partsOf_inv B).nd
  have h2 : partsOf s n = (partsOf s n).take i ++ r :: (partsOf s n).drop (i + 1) := by
    have hl := (List.getElem?_eq_some_iff.mp h)
    obtain ⟨hl, e⟩ := hl
    rw [← e, ← List.drop_eq_getElem_cons hl, List.take_append_drop]
  rw [h2, List.flatten_append, List.flatten_cons] at nd
  exact (List.nodup_append.mp nd).2.2 z hz z (List.mem_append.mpr (.inl hb)) rfl
theorem allTo_ok {n m : Nat} {s t : Net} (B : Back n s) (G : Form m t) : ∀ {i : Nat}, i ≤ (partsOf s n).length → ∀ im ∈ allTo s t n m i, ImOk n m ((partsOf s n).take i).flatten im
  | 0, _, im, h => by
    have : im = [] := by simpa [allTo] using h
    subst this
    exact ⟨⟨by simp, by simp⟩, by simp, by simp⟩
  | i + 1, hi, im', h => by
    obtain ⟨r, hr⟩ : ∃ r, (partsOf s n)[i]? = some r := ⟨_, List.getElem?_eq_getElem (by omega)⟩
    rw [allTo_succ hr] at h
    obtain ⟨im, him, h⟩ := List.mem_flatMap.mp h
    obtain ⟨y, hy, e⟩ := List.mem_filterMap.mp h
    have ih := allTo_ok B G (by omega) im him
    obtain ⟨p1, p2⟩ := part_head B (List.mem_of_getElem? hr)
    have := (extY_ok B.toForm G p1 (List.mem_range.mp hy) ih (parts_take B hr) e).1
    rw [← p2] at this
    rw [List.take_add_one, hr, List.flatten_append]
    simpa using this
theorem four_take {n : Nat} {s : Net} (G : Good n s) : ∀ {i : Nat}, i ≤ (partsOf s n).length → 4 * i ≤ ((partsOf s n).take i).flatten.length
  | 0, _ => by simp
  | i + 1, hi => by
    obtain ⟨r, hr⟩ : ∃ r, (partsOf s n)[i]? = some r := ⟨_, List.getElem?_eq_getElem (by omega)⟩
    have ih := four_take G (i := i) (by omega)
    obtain ⟨p1, p2⟩ := part_head G.toBack (List.mem_of_getElem? hr)
    have F := G.toForm
    have h4 : 4 ≤ r.length := by
      rw [p2]
      exact G.four_of (bfs_nodup F p1) (bfs_lt F p1) (cl_ap F (bfs_closed F p1)) (bfs_mem F p1)
    rw [List.take_add_one, hr, List.flatten_append, List.length_append]
    simp only [Option.toList_some, List.flatten_cons, List.flatten_nil, List.append_nil]
    omega
theorem allTo_len {n m : Nat} {s t : Net} (G : Good n s) (H : Form m t) : ∀ {i : Nat}, i ≤ (partsOf s n).length → (allTo s t n m i).length ≤ bnd m i
  | 0, _ => by simp [allTo, bnd]
  | i + 1, hi => by
    obtain ⟨r, hr⟩ : ∃ r, (partsOf s n)[i]? = some r := ⟨_, List.getElem?_eq_getElem (by omega)⟩
    have ih := allTo_len G H (i := i) (by omega)
    have h4 := four_take G (i := i) (by omega)
    obtain ⟨p1, p2⟩ := part_head G.toBack (List.mem_of_getElem? hr)
    rw [allTo_succ hr]
    refine Nat.le_trans (flatMap_le (c := m - 4 * i) fun im him => ?_) (Nat.mul_le_mul_right _ ih)
    have := ext_le G.toForm H p1 (allTo_ok G.toBack H (by omega) im him) (parts_take G.toBack hr) (Nat.le_refl m)
    show ((List.range m).filterMap _).length ≤ _
    omega
end Nk
/-! ## E6: _law_all_likenesses -/
namespace Nk
open PySem PySem.Spec PyProof.Rows L2 Evl

/-- references to dicts -/
inductive DL (H : Hp) : List V → List Im → Prop
  | nil : DL H [] []
  | cons {a : Addr} {xs : List V} {im : Im} {ims : List Im} (h : H a = some (.dK (kp im))) (t : DL H xs ims) : DL H (.ref a :: xs) (im :: ims)
theorem DL.len {H : Hp} {xs : List V} {ims : List Im} (h : DL H xs ims) : xs.length = ims.length := by
  induction h with
  | nil => rfl
  | cons _ _ ih => simp [ih]
theorem DL.keep {H H' : Hp} {xs : List V} {ims : List Im} (h : DL H xs ims) (k : ∀ a im, H a = some (.dK (kp im)) → H' a = some (.dK (kp im))) : DL H' xs ims := by
  induction h with
  | nil => exact .nil
  | cons h _ ih => exact .cons (k _ _ h) ih
theorem DL.mono {H H' : Hp} {xs : List V} {ims : List Im} (h : DL H xs ims) (e : Ex H H') : DL H' xs ims := h.keep fun a im q => e a _ q
theorem DL.snoc {H : Hp} {xs : List V} {ims : List Im} {a : Addr} {im : Im} (h : DL H xs ims) (ha : H a = some (.dK (kp im))) : DL H (xs ++ [.ref a]) (ims ++ [im]) := by
  induction h with
  | nil => exact .cons ha .nil
  | cons h _ ih => exact .cons h ih
theorem DL.get {H : Hp} {xs : List V} {ims : List Im} (h : DL H xs ims) : ∀ {i : Nat} {x : V}, xs[i]? = some x → ∃ a im, x = .ref a ∧ ims[i]? = some im ∧ H a = some (.dK (kp im)) := by
  induction h with
  | nil => intro i x hx; cases hx
  | @cons a xs im ims h t ih =>
    intro i x hx
    cases i with
    | zero =>
      have hx : some (V.ref a) = some x := hx
      exact ⟨a, im, (Option.some.inj hx).symm, rfl, h⟩
    | succ i => exact ih hx
theorem DL.lst {H : Hp} {xs ys zs : List V} {ims : List Im} {l : Addr} (h : DL H xs ims) (hl : H l = some (.lst ys)) : DL (upd H l (.lst zs)) xs ims := h.keep fun a im q => by
  have : a ≠ l := fun z => by rw [z, hl] at q; cases q
  rw [upd_ne this]
  exact q
theorem DL.fresh {H : Hp} {xs : List V} {ims : List Im} {l : Addr} {o : HO} (h : DL H xs ims) (hl : H l = none) : DL (upd H l o) xs ims := h.keep fun a im q => by
  have : a ≠ l := fun z => by rw [z, hl] at q; cases q
  rw [upd_ne this]
  exact q
theorem q_asgLD {σ : L2.St} {H : Hp} {D : Ends} {tz : TS} {i : Nat} (k : ∀ d l H1, Ex H H1 → H1 d = some (.dK (kp [])) → H1 l = some (.lst [.ref d]) → tz D (σ.set i (some (.ref l))) H1) : tSeq (tAsg (tLst (tCons tDNewK tNil)) (gName i)) tz D σ H := by
  intro d hd
  refine ⟨sz_of (by show 1 ≤ 100000; omega), fun l hl => ?_⟩
  have dl : d ≠ l := fun z => by rw [← z, upd_same] at hl; cases hl
  exact k d l _ ((Ex.new hd).trans (Ex.new hl)) (by rw [upd_ne dl]; exact upd_same) upd_same
section
variable {K : PySem.W.Frag} {σ : L2.St} {H : Hp} {te ta tb : TE} {D : Ends} {tz : TS}
theorem q_dictOf {i : Nat} {d : Addr} {kvs : List (Key × V)} (h : Ev te σ H (.ref d)) (hd : H d = some (.dK kvs)) (k : ∀ j H1, H j = none → Ex H H1 → H1 j = some (.dK kvs) → tz D (σ.set i (some (.ref j))) H1) : tSeq (tAsg (tCB rDictOf (tCons te tNil)) (gName i)) tz D σ H :=
  h H (Ex.refl H) _ fun H1 e1 => ⟨d, kvs, rfl, e1 _ _ hd, fun j hj => k j _ (fresh_back e1 hj) (e1.trans (Ex.new hj)) upd_same⟩
theorem q_update {a b : Addr} {kvs ms : List (Key × V)} (hx : Ev ta σ H (.ref a)) (hy : Ev tb σ H (.ref b)) (ha : H a = some (.dK kvs)) (hb : H b = some (.dK ms)) (ne : a ≠ b) (hz : kvs.length + ms.length ≤ sizeLine) (k : ∀ H1, Ex H H1 → tz D σ (upd H1 a (.dK (mergeK kvs ms)))) :
    tSeq (tDrop (tBM K "dict" rUpdate ta (tCons tb tNil))) tz D σ H :=
  hx H (Ex.refl H) _ fun H1 e1 => ⟨.inr (.inr (.inl ⟨rfl, .inl ⟨kvs, e1 _ _ ha⟩⟩)), hy H1 e1 _ fun H2 e2 => ⟨a, b, kvs, ms, rfl, rfl, ne, e2 _ _ (e1 _ _ ha), e2 _ _ (e1 _ _ hb), hz, k H2 (e1.trans e2)⟩⟩
/-- over a list of raw values -/
theorem g_lcLv {tl : TE} {t : TT} {a : Addr} {xs : List V} {j : Nat} {vs : List Nat} (f : Nat → Bool) (D : Nat → PyData) (h : Ev tl σ H (.ref a)) (hx : SqL K H a xs) (hz : xs.length ≤ 40000) (hw : ∀ x, wipe ((wipe σ vs).set j (some x)) vs = wipe σ vs) (hfl : ∀ i, flatT (D i) = true)
    (ht : ∀ (i : Nat) (x : V) H1, Ex H H1 → xs[i]? = some x → EvT t ((wipe σ vs).set j (some x)) H1 (f i))
    (he : ∀ (i : Nat) (x : V) H1, Ex H H1 → xs[i]? = some x → f i = true → EvG K te ((wipe σ vs).set j (some x)) H1 (.d (D i))) :
    EvG K (tLc (iList K tl) (gName j) t te vs) σ H (.d (.list (givenD xs.length f D))) := fun H0 e Q q => h H0 e _ fun H1 e1 => by
  have h1 := ex_l (e.trans e1) hx
  refine ⟨a, rfl, ⟨xs, h1⟩, fun Dl hD => ?_⟩
  refine lc_list (xs := xs) (CwG K H1 f D Dl) (cwg_start hD) (fun i H' _ p => ex_l p.2.1 h1) (fun i x H' hi p => ?_) (fun H' p => q _ H' (e1.trans p.2.1) (cwg_done p))
  exact ⟨hw x, cwg_turn p (by have := (List.getElem?_eq_some_iff.mp hi).1; omega) hfl (ht i x H1 (e.trans e1) hi) (fun hf => he i x H1 (e.trans e1) hi hf)⟩
theorem g_sortedR {rows : List (List Nat)} (hne : ∀ r ∈ rows, r ≠ []) (h : EvG K te σ H (.d (.list (rows.map encR)))) : EvG K (tCB (rSortedD K) (tCons te tNil)) σ H (.d (.list ((rows.mergeSort (PySem.W.dataLe false encR)).map encR))) := by
  have mem : ∀ d ∈ rows.map encR, ∃ p, d = encR p := fun d hd => let ⟨p, _, e⟩ := List.mem_map.mp hd; ⟨p, e.symm⟩
  refine g_is (g_cb (gs_cons h gs_nil) (rcs_sortedD (fun d hd d' hd' => ?_) (.inl fun d hd => ?_) (fun d hd => ?_))) ?_
  · obtain ⟨p, rfl⟩ := mem d hd
    obtain ⟨p', rfl⟩ := mem d' hd'
    exact alike_R p p'
  · obtain ⟨p, hp, rfl⟩ := List.mem_map.mp hd
    have := hne p hp
    cases p with
    | nil => exact absurd rfl this
    | cons x r => exact ⟨_, _, rfl⟩
  · obtain ⟨p, rfl⟩ := mem d hd
    exact Nat.le_trans (depth_R p) (by decide)
  · exact congrArg (fun l => Nk.A.d (.list l)) (PySem.W.sort_maps (r := PySem.W.dataLe false encR) (s := PySem.W.dataLe false id) encR (l := rows) (fun _ _ _ _ => rfl)).symm
end
def spAll (K : PySem.W.Frag) : Sp := fun vs H Q _ => ∃ (v u : V) (n m : Nat) (s t : Net), vs = [v, u] ∧ Dp K H v (encNet s) ∧ Dp K H u (encNet t) ∧ Good n s ∧ Form m t ∧ n ≤ 1000 ∧ m ≤ 1000 ∧ (∀ i ≤ (partsOf s n).length, bnd m i ≤ 40000) ∧ RetA K (.d (.list ((allRows s t n m).map encR))) H Q
section
variable {P : Program} {w : World} {K : PySem.W.Frag} {mg : Str → Option Value} {base : Heap}
theorem sc_law_all_likenesses : FnScope ["_law_net_here", "_law_other", "_law_found", "_law_part_here", "_law_longer", "_law_images", "_law_start", "_law_told", "_law_joined_here", "_law_flag"] ["_law_net_here", "_law_other"] (defScope (top 58)) := ⟨rfl, rfl, rfl, by decide +kernel, rfl, by decide +kernel, by decide +kernel⟩
theorem kn_law_all_likenesses (T : Txt K mg) (G_law_parts : Kn P w K mg base CX0 2 "_law_parts" ["_law_net_here"] (spLParts K)) (G_law_match : Kn P w K mg base CX0 1 "_law_match" ["_law_net_here", "_law_flag", "_law_other", "_law_start"] (spMatch K)) (G_law_fresh : Kn P w K mg base CX0 1 "_law_fresh" ["_law_images", "_law_told"] (spFresh K)) :
    Kn P w K mg base CX0 3 "_law_all_likenesses" ["_law_net_here", "_law_other"] (spAll K) := by
  obtain ⟨f, fd, F, hm⟩ := (T.df 47 (p := (58, "_law_all_likenesses")) rfl)
  refine kn_ok F hm sc_law_all_likenesses (fun _ _ _ _ _ _ us hl => match us, hl with | [_, _], _ => rfl) (fun vs H Q E h => ?_) (fun cdv A outer s H vs Q E hr h => ?_)
  · obtain ⟨v, u, n, m, s, t, rfl, _⟩ := h
    rfl
  · obtain ⟨v, u, n, m, s, t, rfl, hN, hM, GS, G, hn, hm, hbd, q⟩ := h
    have F := GS.toForm
    have B := GS.toBack
    refine ⟨_, (pss_cons (ps_if (pt_cmpR op_ne (pe_callB (cK_len (K := K) (by rfl)) (by rfl) T.len bt_len (pa_cons (pe_ix (ixK_tup (K := K) (by rfl)) (pv 0) pe_int (fun _ _ => rfl)) pa_nil)) (pe_callB (cK_len (K := K) (by rfl)) (by rfl) T.len bt_len (pa_cons (pe_ix (ixK_tup (K := K) (by rfl)) (pv 1) pe_int (fun _ _ => rfl)) pa_nil)) (nomark _))
  (pss_one (ps_ret (pe_lst pa_nil)))
  pss_nil)
  (pss_cons (ps_set (i := 2) sc_law_all_likenesses.nd rfl (Or.inl rfl) (pe_lst (pa_cons pe_dnewK pa_nil)))
  (pss_cons (ps_for PassesOwn.never rfl (piK_list (K := K) (by rfl) (pe_kn G_law_parts (hr.mono (by decide)) (by rfl) pass0 (pa_cons (pv 0) pa_nil))) (pg_name (i := 3) sc_law_all_likenesses.nd rfl (by first | exact Or.inl rfl | exact Or.inr rfl))
  (pss_cons (ps_set (i := 4) sc_law_all_likenesses.nd rfl (Or.inl rfl) (pe_lst pa_nil))
  (pss_cons (ps_for PassesOwn.never rfl (piK_list (K := K) (by rfl) (pv 2)) (pg_name (i := 5) sc_law_all_likenesses.nd rfl (by first | exact Or.inl rfl | exact Or.inr rfl))
  (pss_one (ps_for PassesOwn.never rfl (pi_range1 rfl T.range (pa_cons (pe_callB (cK_len (K := K) (by rfl)) (by rfl) T.len bt_len (pa_cons (pe_ix (ixK_tup (K := K) (by rfl)) (pv 1) pe_int (fun _ _ => rfl)) pa_nil)) pa_nil)) (pg_name (i := 6) sc_law_all_likenesses.nd rfl (by first | exact Or.inl rfl | exact Or.inr rfl))
  (pss_cons (ps_set (i := 7) sc_law_all_likenesses.nd rfl (Or.inl rfl) (pe_kn G_law_match (hr.mono (by decide)) (by rfl) pass0 (pa_cons (pv 0) (pa_cons (pe_ix (ixK_list (K := K) (by rfl)) (pv 3) pe_int (fun _ _ => rfl)) (pa_cons (pv 1) (pa_cons (pv 6) pa_nil))))))
  (pss_one (ps_if (PW.pt (pw_and (pt_cmpR op_notN (pv 7) pe_non (nomark _)) (pw_and1 (pt_val (pe_kn G_law_fresh (hr.mono (by decide)) (by rfl) pass0 (pa_cons (pv 5) (pa_cons (pv 7) pa_nil)))))))
  (pss_cons (ps_set (i := 8) sc_law_all_likenesses.nd rfl (Or.inl rfl) (pe_callTy cr_dictOf (by rfl) T.dict bt_dict (pa_cons (pv 5) pa_nil)))
  (pss_cons (ps_expr (pe_bmK (K := K) (by rfl) PySem.F.plainAttrs_dict PySem.F.slot_dict_update PySem.F.type_dict_update mt_update (pv 8) (pa_cons (pv 7) pa_nil)))
  (pss_one (ps_expr (pe_bmK (K := K) (by rfl) PySem.F.plainAttrs_list PySem.F.slot_list_append PySem.F.type_list_append mt_append (pv 4) (pa_cons (pv 8) pa_nil))))))
  pss_nil))))))
  (pss_one (ps_set (i := 2) sc_law_all_likenesses.nd rfl (Or.inl rfl) (pv 4))))))
  (pss_one (ps_ret (pe_callB (cK_sortedD (K := K) (by rfl) hr.units) (by rfl) T.sorted bt_sorted (pa_cons (pe_lc (own := [("_law_images", 5)]) (g := (gName 5)) (by rfl) sc_law_all_likenesses.nd (piK_list (K := K) (by rfl) (pv 2)) (blkOk_by (by kernel_rfl)) (fun _ _ _ _ _ => (pg_name (i := 5) sc_law_all_likenesses.nd rfl (by first | exact Or.inl rfl | exact Or.inr rfl))) (fun _ _ _ _ _ => pts_nil) (fun _ _ _ _ _ => (pe_callTy (cK_tuple (K := K) (by rfl)) (by rfl) T.tuple bt_tuple (pa_cons (pe_lc (own := [("_law_flag", 9)]) (g := (gName 9)) (by rfl) sc_law_all_likenesses.nd (pi_range1 rfl T.range (pa_cons (pe_callB (cK_len (K := K) (by rfl)) (by rfl) T.len bt_len (pa_cons (pe_ix (ixK_tup (K := K) (by rfl)) (pv 0) pe_int (fun _ _ => rfl)) pa_nil)) pa_nil)) (blkOk_by (by kernel_rfl)) (fun _ _ _ _ _ => (pg_name (i := 9) sc_law_all_likenesses.nd rfl (by first | exact Or.inl rfl | exact Or.inr rfl))) (fun _ _ _ _ _ => pts_nil) (fun _ _ _ _ _ => (pe_dget (hu_of hr) (pv 5) (pv 9) (fun _ _ => rfl)))) pa_nil)))) pa_nil))))))), ?_⟩
    refine q_when (et_of (K := K) (g_op (g_len0 F (g_dv rfl hN)) (g_len0 G (g_dv rfl hM)) rg_neI)) (fun hb H1 e1 => ?_) (fun hb H1 e1 => ?_)
    · have hne : n ≠ m := by
        intro z
        simp [z] at hb
      have hal : allRows s t n m = [] := if_pos hne
      rw [hal] at q
      exact retA (K := K) (a := .d (.list [])) g_nil (fun v H5 e5 hv => q v H5 (e1.trans e5) hv) rfl
    have hmn : n = m := by
      have h : (n : Int) = m := by simpa using hb
      omega
    subst hmn
    refine q_asgLD fun d0 l H2 e12 hd2 hl2 => ?_
    have e2 := e1.trans e12
    refine q_forGd (K := K) (ds := (partsOf s n).map encL) (fun H3 e3 Q q => ⟨v, rfl, v, n, s, rfl, hN.mono (e2.trans e3), B, hn, q⟩)
      (fun H3 i σ2 G2 => ∃ (lf : Addr) (refs : List V) (y3 y4 y5 y6 y7 y8 : Option V), σ2 = [some v, some u, some (.ref lf), y3, y4, y5, y6, y7, y8, none] ∧ Ex H3 G2 ∧ G2 lf = some (.lst refs) ∧ DL G2 refs (allTo s t n n i))
      (fun H3 e3 => ⟨l, [.ref d0], none, none, none, none, none, none, rfl, Ex.refl H3, e3 _ _ hl2, .cons (e3 _ _ hd2) .nil⟩) (fun H3 i σ2 G2 h => by obtain ⟨_, _, _, _, _, _, _, _, _, e, _⟩ := h; exact e) (fun H3 i x d σ2 G2 e3 hd hx hP => ?_) (fun H3 σ2 G2 e3 hP => ?_)
    · obtain ⟨lf, refs, y3, y4, y5, y6, y7, y8, rfl, e4, hlf, hDL⟩ := hP
      rw [List.getElem?_map] at hd
      obtain ⟨r, hr', rfl⟩ := Option.map_eq_some_iff.mp hd
      obtain ⟨pa, rfl, hpa⟩ := dp_ofL hx
      have hil := (List.getElem?_eq_some_iff.mp hr').1
      obtain ⟨p1, p2⟩ := part_head B (List.mem_of_getElem? hr')
      have hok := allTo_ok (t := t) B G (Nat.le_of_lt hil)
      have hdis := parts_take B hr'
      have hlen := allTo_len (t := t) GS G (Nat.le_of_lt hil)
      have hb1 := hbd (i + 1) hil
      have hb0 := hbd i (Nat.le_of_lt hil)
      have h4 := four_take GS (Nat.le_of_lt hil)
      have hrl := hDL.len
      obtain ⟨x0, hx0⟩ : ∃ x0, x0 = r.headD 0 := ⟨_, rfl⟩
      have hr0 : r[0]? = some x0 := by
        obtain ⟨tl, htl⟩ := bfs_head F p1
        rw [← p2] at htl
        rw [htl] at hx0 ⊢
        rw [hx0]
        rfl
      rw [← hx0] at p1 p2 hdis
      show tSeq _ _ _ _ _
      refine q_asgL el_nil fun lg H5 lg0 e5 hlg => ?_
      have hDL5 := hDL.mono e5
      have e25' : Ex H G2 := e2.trans (e3.trans e4)
      have hpa2 : Ex G2 H5 := e5
      have hpaG := hpa
      refine q_forL (K := K) (a := lf) (xs := refs) (ev_var rfl) (sq_of (e5 _ _ hlf)) (fun a σ2 G' => ∃ (y5 y6 y7 y8 : Option V) (acc : List V), σ2 = [some v, some u, some (.ref lf), some (.ref pa), some (.ref lg), y5, y6, y7, y8, none] ∧ Ex G2 G' ∧ G' lg = some (.lst acc) ∧ DL G' acc (((allTo s t n n i).take a).flatMap (ext1 s t n n x0)))
        (fun H6 e6 => ⟨y5, y6, y7, y8, [], rfl, e5.trans e6, e6 _ _ hlg, .nil⟩) (fun a σ2 G' _ h => by obtain ⟨_, _, _, _, _, _, e, _⟩ := h; exact sq_of (e _ _ hlf)) (fun a x σ2 G' ha hP => ?_) (fun σ2 G' hP => ?_)
      · obtain ⟨y5, y6, y7, y8, acc, rfl, e6, hlg6, hacc⟩ := hP
        obtain ⟨da, im, rfl, him, hda⟩ := (hDL.mono e6).get ha
        have okim := hok im (List.mem_of_getElem? him)
        have hal := (List.getElem?_eq_some_iff.mp him).1
        obtain ⟨pre, hpre⟩ : ∃ z, z = ((allTo s t n n i).take a).flatMap (ext1 s t n n x0) := ⟨_, rfl⟩
        rw [← hpre] at hacc
        have hpl : pre.length ≤ a * (n - 4 * i) := by
          rw [hpre]
          refine Nat.le_trans (flatMap_le (c := n - 4 * i) fun im' him' => ?_) (Nat.mul_le_mul_right _ (by rw [List.length_take]; omega))
          have := ext_le F G p1 (hok im' (List.mem_of_mem_take him')) hdis (Nat.le_refl n)
          show ((List.range n).filterMap _).length ≤ _
          omega
        have hroom : ∀ k ≤ n, (pre ++ (List.range k).filterMap (extY s t n x0 im)).length ≤ 40000 := fun k hk => by
          have h1 := ext_le F G p1 okim hdis hk
          have h2 : ((List.range k).filterMap (extY s t n x0 im)).length ≤ n - 4 * i := by omega
          rw [List.length_append]
          have h3 : (a + 1) * (n - 4 * i) ≤ bnd n i * (n - 4 * i) := Nat.mul_le_mul_right _ (by omega)
          have h4 : bnd n i * (n - 4 * i) ≤ 40000 := hb1
          rw [Nat.add_mul] at h3
          omega
        show tFor _ _ _ _ _ _
        refine s_forR1 (n := (n : Int)) (ea_cons (g_ev (g_toV (g_len0 (K := K) G (g_dv rfl (hM.mono (e25'.trans e6)))))) ea_nil) (by omega) (fun k σ2 G'' => ∃ (y6 y7 y8 : Option V) (acc : List V), σ2 = [some v, some u, some (.ref lf), some (.ref pa), some (.ref lg), some (.ref da), y6, y7, y8, none] ∧ Ex G2 G'' ∧ G'' lg = some (.lst acc) ∧ DL G'' acc (pre ++ (List.range k).filterMap (extY s t n x0 im)) ∧ G'' da = some (.dK (kp im)))
          (fun H7 e7 => ⟨y6, y7, y8, acc, rfl, e6.trans e7, e7 _ _ hlg6, by rw [List.range_zero, List.filterMap_nil, List.append_nil]; exact hacc.mono e7, e7 _ _ hda⟩) (fun k σ2 G'' hk h => ?_) (fun σ2 G'' h => ?_)
        · obtain ⟨y6, y7, y8, acc, rfl, e7, hlg7, hacc7, hda7⟩ := h
          have hkn : k < n := by omega
          have eH := e25'.trans e7
          have hsucc : (List.range (k + 1)).filterMap (extY s t n x0 im) = (List.range k).filterMap (extY s t n x0 im) ++ (extY s t n x0 im k).toList := by
            rw [List.range_succ, List.filterMap_append]
            cases h : extY s t n x0 im k with
            | none => rw [List.filterMap_cons_none h]; rfl
            | some z => rw [List.filterMap_cons_some h]; rfl
          have hpaS : SqL K G'' pa (nl r) := ex_l e7 hpa
          show tSeq _ _ _ _ _
          refine ⟨v, rfl, ?_⟩
          refine (ev_ixL (v := nv x0) (ev_var rfl) hpaS ev_c (atI_n (nl_get hr0))) G'' (Ex.refl _) _ fun G3 e8 => ?_
          refine ⟨u, rfl, nv k, rfl, v, u, n, n, s, t, x0, k, rfl, hN.mono (eH.trans e8), hM.mono (eH.trans e8), F, G, hn, hm, p1, hkn, ?_⟩
          cases hmt : mtch s t n x0 k with
          | none =>
            intro H6 e9
            have hex : extY s t n x0 im k = none := by unfold extY; rw [hmt]
            refine s_when (b := false) (et_is (et_and (a := false) (b := false) (et_test (ev_is (ev_notN (ev_var (v := .non) rfl)) rfl)) (fun z => by cases z)) rfl) (fun z => by cases z) (fun _ H7 e10 => ?_)
            have ee := (e8.trans e9).trans e10
            exact ⟨_, _, _, acc, rfl, e7.trans ee, ee _ _ hlg7, by rw [hsucc, hex, Option.toList_none, List.append_nil]; exact hacc7.mono ee, ee _ _ hda7⟩
          | some ps =>
            intro p H6 p0 e9 hp
            obtain ⟨okp, rr, hrr⟩ := mtch_ok F G p1 hkn hmt
            have e89 := e8.trans e9
            refine s_when (b := freshB im ps) (et_is (et_and (a := true) (b := freshB im ps) (et_test (ev_is (ev_notN (ev_var (v := .ref p) rfl)) rfl)) (fun _ => et_B (fun H7 e10 Q q => ⟨.ref da, rfl, .ref p, rfl, da, p, n, n, im, ps, rfl, e10 _ _ (e89 _ _ hda7), e10 _ _ hp, okim.ok, okp, hn, by rw [hrr]; simp, fun H' e' => q H' e'⟩))) (by simp)) (fun hfr H7 e10 => ?_) (fun hfr H7 e10 => ?_)
            · have ee := e89.trans e10
              have hex : extY s t n x0 im k = some (im ++ ps) := by
                unfold extY
                rw [hmt]
                show (if freshB im ps = true then _ else none) = _
                rw [if_pos hfr]
              obtain ⟨okn, _⟩ := extY_ok F G p1 hkn okim hdis hex
              have hp7 := e10 _ _ hp
              have hlg8 := ee _ _ hlg7
              refine q_dictOf (ev_var rfl) (ee _ _ hda7) fun j H8 j0 e11 hj => ?_
              have jl : j ≠ lg := fun z => by rw [z, hlg8] at j0; cases j0
              have jp : j ≠ p := fun z => by rw [z, hp7] at j0; cases j0
              have jd : da ≠ j := fun z => by rw [← z, ee _ _ hda7] at j0; cases j0
              have jG2 : G2 j = none := fresh_back (e7.trans ee) j0
              have l1 := okim.ok.len
              have l2 := okp.len
              refine q_update (kvs := kp im) (ms := kp ps) (ev_var rfl) (ev_var rfl) hj (e11 _ _ hp7) jp (by rw [kp_len, kp_len, sizeLine_eq]; omega) fun H9 e12' => ?_
              rw [mergeK_kp okn.ok.nd]
              have hacc9 : DL (upd H9 j (.dK (kp (im ++ ps)))) acc (pre ++ (List.range k).filterMap (extY s t n x0 im)) := (hacc7.mono ee).keep fun a0 im0 q0 => by
                have : a0 ≠ j := fun z => by rw [z, j0] at q0; cases q0
                rw [upd_ne this]
                exact e12' _ _ (e11 _ _ q0)
              have hlg9 : (upd H9 j (.dK (kp (im ++ ps)))) lg = some (.lst acc) := by
                rw [upd_ne (Ne.symm jl)]
                exact e12' _ _ (e11 _ _ hlg8)
              have hj9 : (upd H9 j (.dK (kp (im ++ ps)))) j = some (.dK (kp (im ++ ps))) := upd_same
              have hda9 : (upd H9 j (.dK (kp (im ++ ps)))) da = some (.dK (kp im)) := by
                rw [upd_ne jd]
                exact e12' _ _ (e11 _ _ (ee _ _ hda7))
              have e9G : Ex G2 (upd H9 j (.dK (kp (im ++ ps)))) := Ex.mut ((e7.trans ee).trans (e11.trans e12')) jG2
              generalize upd H9 j (.dK (kp (im ++ ps))) = H10 at hacc9 hlg9 hj9 hda9 e9G
              have hroomk := hroom k (Nat.le_of_lt hkn)
              have hacl := hacc9.len
              refine appD (v := .ref j) hlg9 (ev_var rfl) (ev_var rfl) (by omega) fun H11 e13 => ?_
              refine ⟨_, _, _, acc ++ [.ref j], rfl, Ex.mut (e9G.trans e13) lg0, upd_same, ?_, ?_⟩
              · rw [hsucc, hex, Option.toList_some, ← List.append_assoc]
                exact ((hacc9.mono e13).lst (e13 _ _ hlg9)).snoc (by
                  rw [upd_ne jl]
                  exact e13 _ _ hj9)
              · have : da ≠ lg := fun z => by rw [z, hlg9] at hda9; cases hda9
                rw [upd_ne this]
                exact e13 _ _ hda9
            · have hex : extY s t n x0 im k = none := by
                unfold extY
                rw [hmt]
                show (if freshB im ps = true then _ else none) = none
                rw [if_neg (by rw [hfr]; simp)]
              have ee := e89.trans e10
              exact ⟨_, _, _, acc, rfl, e7.trans ee, ee _ _ hlg7, by rw [hsucc, hex, Option.toList_none, List.append_nil]; exact hacc7.mono ee, ee _ _ hda7⟩
        · obtain ⟨y6, y7, y8, acc, rfl, e7, hlg7, hacc7, hda7⟩ := h
          rw [Int.toNat_natCast] at hacc7
          refine ⟨_, _, _, _, acc, rfl, e7, hlg7, ?_⟩
          rw [List.take_add_one, him, List.flatMap_append, ← hpre]
          simpa [ext1] using hacc7
      · obtain ⟨y5, y6, y7, y8, acc, rfl, e6, hlg6, hacc⟩ := hP
        rw [hrl, List.take_length] at hacc
        refine s_asg (v := .ref lg) (ev_var rfl) fun H7 e7 => ?_
        refine ⟨lg, acc, _, _, _, _, _, _, rfl, (e4.trans e6).trans e7, e7 _ _ hlg6, ?_⟩
        rw [allTo_succ hr', show allStep s t n n (allTo s t n n i) r = (allTo s t n n i).flatMap (ext1 s t n n x0) by unfold allStep; rw [← hx0]]
        exact hacc.mono e7
    · obtain ⟨lf, refs, y3, y4, y5, y6, y7, y8, rfl, e4, hlf, hDL⟩ := hP
      rw [List.length_map] at hDL
      have hok := allTo_ok (t := t) B G (Nat.le_refl _)
      have hlen := allTo_len (t := t) GS G (Nat.le_refl _)
      have hb1 := hbd _ (Nat.le_refl _)
      have hal : allRows s t n n = ((allTo s t n n (partsOf s n).length).map (rowOf n)).mergeSort (PySem.W.dataLe false encR) := if_neg (fun z => z rfl)
      rw [hal] at q
      have hdl := hDL.len
      have e4' := e2.trans (e3.trans e4)
      have h4 := GS.four
      refine retA (K := K) (a := .d (.list ((((allTo s t n n (partsOf s n).length).map (rowOf n)).mergeSort (PySem.W.dataLe false encR)).map encR))) (g_sortedR (fun r hr => ?_) (g_is (g_lcLv (a := lf) (xs := refs) (fun _ => true) (fun i => encR (rowOf n ((allTo s t n n (partsOf s n).length).getD i []))) (ev_var rfl) (sq_of hlf) (by omega) (fun x => rfl) (fun _ => flat_R _) (fun i x H5 e5 hi => et_yes) (fun i x H5 e5 hi _ => ?_)) ?_)) (fun v H5 e5 hv => q v H5 (e4'.trans e5) hv) rfl
      · obtain ⟨im, _, rfl⟩ := List.mem_map.mp hr
        intro z
        have := congrArg List.length z
        unfold rowOf at this
        rw [List.length_map, List.length_range] at this
        simp at this
        omega
      · obtain ⟨da, im, rfl, him, hda⟩ := hDL.get hi
        have okim := hok im (List.mem_of_getElem? him)
        have hge : (allTo s t n n (partsOf s n).length).getD i [] = im := by rw [List.getD_eq_getElem?_getD, him]; rfl
        rw [hge]
        have him5 := e5 _ _ hda
        refine g_is (g_tupOf (g_lcR1 (n := n) (fun _ => true) (fun f => encN ((lk im f).getD 0)) (gs_cons (g_len0 (K := K) F (g_dv rfl (hN.mono (e4'.trans e5)))) gs_nil) (by omega) (fun _ => rfl) (fun _ => rfl) (fun k H6 e6 hk => et_yes) (fun k H6 e6 hk _ => ?_))) ?_
        · have hkm : k ∈ im.map (·.1) := by
            rw [okim.keys, List.take_length]
            exact (partsOf_inv B).all k hk
          obtain ⟨dv, hdv⟩ := mem_keys_lk hkm
          rw [hdv]
          exact g_toD (g_dget (g_vv rfl) (e6 _ _ him5) (g_vn rfl) (by rw [valV_kp, hdv]; rfl))
        · rw [givenD_range]
          show Nk.A.d (.tuple _) = Nk.A.d (.tuple ((rowOf n im).map encN))
          unfold rowOf
          rw [List.map_map]
          rfl
      · rw [hdl]
        refine congrArg (fun l => Nk.A.d (.list l)) ?_
        rw [List.map_map]
        exact givenD_all fun k im him => by
          show encR (rowOf n ((allTo s t n n (partsOf s n).length).getD k [])) = _
          rw [List.getD_eq_getElem?_getD, him]
          rfl
end
end Nk
/-! ## P1: the walk over two nets is a map that keeps the changes -/
namespace Nk
open PySem PySem.Spec PyProof.Rows L2 Evl

def ig (im : Im) (z : Nat) : Nat := (lk im z).getD 0
theorem ig_of {im : Im} {z d : Nat} (h : lk im z = some d) : ig im z = d := by unfold ig; rw [h]; rfl
theorem lk_mem {ps : Im} {a d : Nat} (h : lk ps a = some d) : (a, d) ∈ ps := by
  unfold lk at h
  obtain ⟨p, h1, h2⟩ := Option.map_eq_some_iff.mp h
  have h3 := List.find?_some h1
  have h4 := List.mem_of_find?_eq_some h1
  have h5 : p.1 = a := by simpa using h3
  obtain ⟨p1, p2⟩ := p
  cases h2
  cases h5
  exact h4
theorem lk_of {n m : Nat} {ps : Im} (h : MOk n m ps) {p : Nat × Nat} (hp : p ∈ ps) : lk ps p.1 = some p.2 := by
  obtain ⟨i, hi⟩ := List.mem_iff_getElem?.mp hp
  exact lk_at h hi
theorem lk_app_none {ps r : Im} {a : Nat} (h : lk ps a = none) : lk (ps ++ r) a = lk r a := by
  unfold lk at *
  rw [List.find?_append, Option.map_eq_none_iff.mp h, Option.none_or]
theorem mt1_ext {ps q : Im} {a b : Nat} (h : mt1 ps a b = some q) : lk q a = some b ∧ ∃ r, q = ps ++ r := by
  cases hl : lk ps a with
  | none =>
    rw [mt1_new hl] at h
    cases h
    refine ⟨?_, _, rfl⟩
    rw [lk_app_none hl]
    unfold lk
    rw [List.find?_cons_of_pos (by simp)]
    rfl
  | some d =>
    rw [mt1_old hl] at h
    by_cases hd : d = b
    · rw [if_pos hd] at h
      cases h
      exact ⟨by rw [hl, hd], [], (List.append_nil _).symm⟩
    · rw [if_neg hd] at h
      cases h
theorem mtv_ext {s t : Net} {x y : Nat} {ps : Im} : ∀ {k : Nat} {q : Im}, mtv s t x y ps k = some q → (∀ c < k, lk q (ap s c x) = some (ap t c y)) ∧ ∃ r, q = ps ++ r
  | 0, q, h => by
    cases h
    exact ⟨fun c hc => absurd hc (Nat.not_lt_zero c), [], (List.append_nil _).symm⟩
  | k + 1, q, h => by
    obtain ⟨q', e1, e2⟩ := Option.bind_eq_some_iff.mp h
    obtain ⟨i1, r1, rfl⟩ := mtv_ext e1
    obtain ⟨i2, r2, rfl⟩ := mt1_ext e2
    refine ⟨fun c hc => ?_, r1 ++ r2, by rw [List.append_assoc]⟩
    rcases Nat.lt_or_ge c k with h1 | h1
    · exact lk_app (i1 c h1)
    · rw [show c = k by omega]
      exact i2
def Done (s t : Net) (ps : Im) (i : Nat) : Prop := ∀ j < i, ∀ p, ps[j]? = some p → ∀ c < 3, lk ps (ap s c p.1) = some (ap t c p.2)
theorem mtGo_done {s t : Net} : ∀ {k i : Nat} {ps q : Im}, Done s t ps i → i ≤ ps.length → mtGo s t k ps i = some q → ∃ j, Done s t q j ∧ (j = k + i ∨ q.length ≤ j)
  | 0, i, ps, q, hd, _, h => by
    cases h
    exact ⟨i, hd, .inl (by omega)⟩
  | k + 1, i, ps, q, hd, hi, h => by
    cases hp : ps[i]? with
    | none =>
      have hl := List.getElem?_eq_none_iff.mp hp
      rw [mtGo_stop hl] at h
      cases h
      exact ⟨i, hd, .inr hl⟩
    | some p =>
      rw [mtGo_go hp] at h
      obtain ⟨q', e1, e2⟩ := Option.bind_eq_some_iff.mp h
      obtain ⟨i1, r, rfl⟩ := mtv_ext e1
      have hil := (List.getElem?_eq_some_iff.mp hp).1
      obtain ⟨j, h1, h2⟩ := mtGo_done (i := i + 1) (fun j hj p' hp' c hc => by
        rcases Nat.lt_or_ge j i with hji | hji
        · have hjl : j < ps.length := by omega
          rw [List.getElem?_append_left hjl] at hp'
          exact lk_app (hd j hji p' hp' c hc)
        · have : j = i := by omega
          subst this
          rw [get_app hp] at hp'
          cases hp'
          exact i1 c hc) (by rw [List.length_append]; omega) e2
      exact ⟨j, h1, h2.elim (fun z => .inl (by omega)) .inr⟩
section
variable {n m x y : Nat} {s t : Net}
theorem mtch_hom (F : Form n s) (G : Form m t) (hx : x < n) (hy : y < m) {ps : Im} (h : mtch s t n x y = some ps) : lk ps x = some y ∧ ∀ z ∈ bfs s n x, ∀ c < 3, lk ps (ap s c z) = some (ap t c (ig ps z)) := by
  obtain ⟨ok, r, hr⟩ := mtch_ok F G hx hy h
  have hk := mtch_keys F.three h
  obtain ⟨j, h1, h2⟩ := mtGo_done (fun j hj => absurd hj (Nat.not_lt_zero j)) (Nat.zero_le _) h
  have hl := ok.len
  have hj : ps.length ≤ j := by omega
  refine ⟨lk_of ok (p := (x, y)) (by rw [hr]; exact List.mem_append_left _ List.mem_cons_self), fun z hz c hc => ?_⟩
  rw [← hk] at hz
  obtain ⟨p, hp, rfl⟩ := List.mem_map.mp hz
  obtain ⟨i, hi⟩ := List.mem_iff_getElem?.mp hp
  rw [ig_of (lk_at ok hi)]
  exact h1 i (Nat.lt_of_lt_of_le (List.getElem?_eq_some_iff.mp hi).1 hj) p hi c hc
/-! a map that keeps the changes is found -/
def Is_ (g : Nat → Nat) (ps : Im) : Prop := ∀ p ∈ ps, p.2 = g p.1
theorem Is_.app {g : Nat → Nat} {ps qs : Im} (h : Is_ g ps) (k : Is_ g qs) : Is_ g (ps ++ qs) := fun p hp => (List.mem_append.mp hp).elim (h p) (k p)
theorem Is_.lk {g : Nat → Nat} {ps : Im} (h : Is_ g ps) {a d : Nat} (e : lk ps a = some d) : d = g a := h (a, d) (lk_mem e)
theorem mt1_is {g : Nat → Nat} {ps : Im} (h : Is_ g ps) (a : Nat) : ∃ q, mt1 ps a (g a) = some q ∧ Is_ g q := by
  cases hl : Nk.lk ps a with
  | none => exact ⟨_, mt1_new hl, h.app fun p hp => by rw [List.mem_singleton.mp hp]⟩
  | some d => exact ⟨ps, by rw [mt1_old hl, if_pos (h.lk hl)], h⟩
theorem mtv_is {g : Nat → Nat} {ps : Im} (h : Is_ g ps) {z : Nat} (hg : ∀ c < 3, g (ap s c z) = ap t c (g z)) : ∀ k ≤ 3, ∃ q, mtv s t z (g z) ps k = some q ∧ Is_ g q
  | 0, _ => ⟨ps, rfl, h⟩
  | k + 1, hk => by
    obtain ⟨q, e1, h1⟩ := mtv_is h hg k (by omega)
    obtain ⟨q2, e2, h2⟩ := mt1_is h1 (ap s k z)
    rw [hg k (by omega)] at e2
    exact ⟨q2, by show (mtv s t z (g z) ps k).bind _ = _; rw [e1]; exact e2, h2⟩
theorem mtv_keyU {U : Nat → Prop} {ps : Im} (h : ∀ p ∈ ps, U p.1) {z w : Nat} (hU : ∀ c < 3, U (ap s c z)) : ∀ {k : Nat} {q : Im}, k ≤ 3 → mtv s t z w ps k = some q → ∀ p ∈ q, U p.1
  | 0, q, _, e => by
    cases e
    exact h
  | k + 1, q, hk, e => by
    obtain ⟨q', e1, e2⟩ := Option.bind_eq_some_iff.mp e
    have ih := mtv_keyU h hU (by omega) e1
    have hk' := mt1_keys e2
    intro p hp
    have : p.1 ∈ q.map (·.1) := List.mem_map.mpr ⟨p, hp, rfl⟩
    rw [hk', mem_vis1] at this
    rcases this with h1 | h1
    · obtain ⟨p', hp', e⟩ := List.mem_map.mp h1
      rw [← e]
      exact ih p' hp'
    · rw [h1]
      exact hU k (by omega)
theorem mtGo_is {g : Nat → Nat} {U : Nat → Prop} (hU : ∀ z, U z → ∀ c < 3, U (ap s c z) ∧ g (ap s c z) = ap t c (g z)) : ∀ (k i : Nat) (ps : Im), Is_ g ps → (∀ p ∈ ps, U p.1) → ∃ q, mtGo s t k ps i = some q ∧ Is_ g q
  | 0, i, ps, h, _ => ⟨ps, rfl, h⟩
  | k + 1, i, ps, h, hu => by
    cases hp : ps[i]? with
    | none => exact ⟨ps, mtGo_stop (List.getElem?_eq_none_iff.mp hp) _, h⟩
    | some p =>
      rw [mtGo_go hp]
      have hm := List.mem_of_getElem? hp
      have hup := hu p hm
      rw [h p hm]
      obtain ⟨q, e1, h1⟩ := mtv_is (t := t) h (fun c hc => (hU p.1 hup c hc).2) 3 (Nat.le_refl 3)
      have h2 := mtv_keyU hu (fun c hc => (hU p.1 hup c hc).1) (Nat.le_refl 3) e1
      rw [e1]
      exact mtGo_is hU k (i + 1) q h1 h2
theorem mtch_is {g : Nat → Nat} (F : Form n s) (hx : x < n) (hg : ∀ z ∈ bfs s n x, ∀ c < 3, g (ap s c z) = ap t c (g z)) : ∃ ps, mtch s t n x (g x) = some ps ∧ Is_ g ps :=
  mtGo_is (U := (· ∈ bfs s n x)) (fun z hz c hc => ⟨cl_ap F (bfs_closed F hx) z hz c hc, hg z hz c hc⟩) n 0 [(x, g x)] (fun p hp => by rw [List.mem_singleton.mp hp]) (fun p hp => by rw [List.mem_singleton.mp hp]; exact bfs_mem F hx)
/-- what goes on by changes from a flag holds on its part -/
theorem bfs_leastA (F : Form n s) (hx : x < n) {P : Nat → Prop} (hP : ∀ z ∈ bfs s n x, P z → ∀ c < 3, P (ap s c z)) (h : P x) : ∀ z ∈ bfs s n x, P z := by
  have := bfs_leastN F hx (P := fun z => z ∈ bfs s n x ∧ P z) (fun z hz hq ch hc => ?_) ⟨bfs_mem F hx, h⟩
  · exact fun z hz => (this z hz).2
  · obtain ⟨i, hi⟩ := List.mem_iff_getElem?.mp hc
    have h3 : i < 3 := by
      have := (List.getElem?_eq_some_iff.mp hi).1
      rw [F.three] at this
      exact this
    have e0 : ch.getD z 0 = ap s i z := by unfold ap; rw [List.getD_eq_getElem?_getD (l := s), hi]; rfl
    refine ⟨bfs_closed F hx z hq.1 ch hc, ?_⟩
    rw [e0]
    exact hP z hq.1 hq.2 i h3
/-- two such maps that agree at a flag agree on its part -/
theorem hom_uniq {g h : Nat → Nat} (F : Form n s) (hx : x < n) (e : g x = h x) (hg : ∀ z ∈ bfs s n x, ∀ c < 3, g (ap s c z) = ap t c (g z)) (hh : ∀ z ∈ bfs s n x, ∀ c < 3, h (ap s c z) = ap t c (h z)) : ∀ z ∈ bfs s n x, g z = h z :=
  bfs_leastA F hx (P := fun z => g z = h z) (fun z hz hq c hc => by rw [hg z hz c hc, hh z hz c hc, hq]) e
end
/-! ### partial maps -/
structure Iso (n : Nat) (s t : Net) (g : Nat → Nat) : Prop where
  lt : ∀ z < n, g z < n
  inj : ∀ z < n, ∀ w < n, g z = g w → z = w
  hom : ∀ z < n, ∀ c < 3, g (ap s c z) = ap t c (g z)
structure PI (n : Nat) (s t : Net) (ks : List Nat) (im : Im) : Prop where
  ok : ImOk n n ks im
  hom : ∀ z ∈ ks, ∀ c < 3, lk im (ap s c z) = some (ap t c (ig im z))
theorem nodup_inj {α β : Type} {f : α → β} : ∀ {l : List α}, (l.map f).Nodup → ∀ a ∈ l, ∀ b ∈ l, f a = f b → a = b
  | [], _, a, ha, _, _, _ => by cases ha
  | x :: l, h, a, ha, b, hb, e => by
    rw [List.map_cons] at h
    obtain ⟨h1, h2⟩ := List.nodup_cons.mp h
    rcases List.mem_cons.mp ha with ea | ha'
    · rcases List.mem_cons.mp hb with eb | hb'
      · rw [ea, eb]
      · exact absurd (List.mem_map.mpr ⟨b, hb', by rw [← e, ea]⟩) h1
    · rcases List.mem_cons.mp hb with eb | hb'
      · exact absurd (List.mem_map.mpr ⟨a, ha', by rw [e, eb]⟩) h1
      · exact nodup_inj h2 a ha' b hb' e
theorem nodup_mapOn {α β : Type} {f : α → β} : ∀ {l : List α}, l.Nodup → (∀ a ∈ l, ∀ b ∈ l, f a = f b → a = b) → (l.map f).Nodup
  | [], _, _ => by simp
  | x :: l, h, hf => by
    obtain ⟨h1, h2⟩ := List.nodup_cons.mp h
    rw [List.map_cons]
    refine List.nodup_cons.mpr ⟨fun z => ?_, nodup_mapOn h2 fun a ha b hb => hf a (List.mem_cons_of_mem _ ha) b (List.mem_cons_of_mem _ hb)⟩
    obtain ⟨y, hy, e⟩ := List.mem_map.mp z
    exact h1 (hf y (List.mem_cons_of_mem _ hy) x List.mem_cons_self e ▸ hy)
section
variable {n x y : Nat} {s t : Net} {ks : List Nat} {im ps : Im}
theorem PI.nil : PI n s t [] [] := ⟨⟨⟨by simp, by simp⟩, rfl, by simp⟩, fun z hz => by cases hz⟩
theorem ImOk.get (h : ImOk n n ks im) {z : Nat} (hz : z ∈ ks) : lk im z = some (ig im z) := by
  rw [← h.keys] at hz
  obtain ⟨d, hd⟩ := mem_keys_lk hz
  rw [hd, ig_of hd]
theorem ImOk.gmem (h : ImOk n n ks im) {z : Nat} (hz : z ∈ ks) : ig im z ∈ im.map (·.2) := List.mem_map.mpr ⟨_, lk_mem (h.get hz), rfl⟩
theorem ImOk.of_val (h : ImOk n n ks im) {v : Nat} (hv : v ∈ im.map (·.2)) : ∃ z ∈ ks, ig im z = v := by
  obtain ⟨p, hp, rfl⟩ := List.mem_map.mp hv
  exact ⟨p.1, by rw [← h.keys]; exact List.mem_map.mpr ⟨p, hp, rfl⟩, ig_of (lk_of h.ok hp)⟩
theorem ImOk.gnone (h : ImOk n n ks im) {z : Nat} (hz : z ∉ ks) : lk im z = none := lk_none.mpr (by rw [h.keys]; exact hz)
theorem PI.ext (F : Form n s) (G : Form n t) (h : PI n s t ks im) (hx : x < n) (hy : y < n) (hd : ∀ z ∈ ks, z ∉ bfs s n x) (hm : mtch s t n x y = some ps) (hf : freshB im ps = true) : PI n s t (ks ++ bfs s n x) (im ++ ps) := by
  have he : extY s t n x im y = some (im ++ ps) := by
    unfold extY
    rw [hm]
    exact if_pos hf
  obtain ⟨ok, _⟩ := extY_ok F G hx hy h.ok hd he
  refine ⟨ok, fun z hz c hc => ?_⟩
  rcases List.mem_append.mp hz with hz | hz
  · rw [show ig (im ++ ps) z = ig im z from ig_of (lk_app (h.ok.get hz))]
    exact lk_app (h.hom z hz c hc)
  · have h1 : z ∉ ks := fun q => hd z q hz
    have h2 : ap s c z ∉ ks := fun q => hd _ q (cl_ap F (bfs_closed F hx) z hz c hc)
    have e1 : ig (im ++ ps) z = ig ps z := by unfold ig; rw [lk_app_none (h.ok.gnone h1)]
    rw [e1, lk_app_none (h.ok.gnone h2)]
    exact (mtch_hom F G hx hy hm).2 z hz c hc
theorem PI.iso (h : PI n s t ks im) (hk : ∀ z < n, z ∈ ks) : Iso n s t (ig im) where
  lt z hz := (h.ok.ok.lt _ (lk_mem (h.ok.get (hk z hz)))).2
  inj z hz w hw e := by
    have := nodup_inj h.ok.vals _ (lk_mem (h.ok.get (hk z hz))) _ (lk_mem (h.ok.get (hk w hw))) e
    exact (Prod.mk.inj this).1
  hom z hz c hc := ig_of (h.hom z (hk z hz) c hc)
theorem PI.is (h : PI n s t ks im) : Is_ (ig im) im := fun p hp => (ig_of (lk_of h.ok.ok hp)).symm
/-- the images are closed -/
theorem PI.cl (h : PI n s t ks im) {v : Nat} (hv : v ∈ im.map (·.2)) {c : Nat} (hc : c < 3) : ap t c v ∈ im.map (·.2) := by
  obtain ⟨z, hz, rfl⟩ := h.ok.of_val hv
  exact List.mem_map.mpr ⟨_, lk_mem (h.hom z hz c hc), rfl⟩
/-- what starts outside stays outside -/
theorem PI.out (GS : Good n s) (GT : Good n t) (h : PI n s t ks im) (hx : x < n) (hy : y < n) (hv : y ∉ im.map (·.2)) (hm : mtch s t n x y = some ps) (hnd : (ps.map (·.2)).Nodup) : ∀ v ∈ ps.map (·.2), v ∉ im.map (·.2) := by
  have F := GS.toForm
  have G := GT.toForm
  obtain ⟨ok, _⟩ := mtch_ok F G hx hy hm
  have hk := mtch_keys F.three hm
  obtain ⟨h0, h1⟩ := mtch_hom F G hx hy hm
  have key := bfs_leastA F hx (P := fun z => ig ps z ∉ im.map (·.2)) (fun z hz hq c hc q => hq (by
    rw [ig_of (h1 z hz c hc)] at q
    have := h.cl q hc
    rwa [GT.apInv hc (by
      have := lk_mem ((show MOk n n ps from ok) |> fun ok => (ImOk.get (ks := bfs s n x) ⟨ok, hk, hnd⟩ hz))
      exact (ok.lt _ this).2)] at this)) (by rw [ig_of h0]; exact hv)
  intro v hv
  obtain ⟨p, hp, rfl⟩ := List.mem_map.mp hv
  have := key p.1 (by rw [← hk]; exact List.mem_map.mpr ⟨p, hp, rfl⟩)
  rwa [ig_of (lk_of ok hp)] at this
end
end Nk
/-! ## P2: the list of all likenesses, the greedy one -/
namespace Nk
open PySem PySem.Spec PyProof.Rows L2 Evl

section
variable {n : Nat} {s t : Net} {g : Nat → Nat}
theorem is_snd {ps : Im} (h : Is_ g ps) : ps.map (·.2) = (ps.map (·.1)).map g := by
  rw [List.map_map]
  exact List.map_congr_left fun p hp => h p hp
theorem is_vals (I : Iso n s t g) {ps : Im} (ok : MOk n n ps) (h : Is_ g ps) : (ps.map (·.2)).Nodup := by
  rw [is_snd h]
  refine nodup_mapOn ok.nd fun a ha b hb e => ?_
  obtain ⟨p, hp, rfl⟩ := List.mem_map.mp ha
  obtain ⟨q, hq, rfl⟩ := List.mem_map.mp hb
  exact I.inj _ (ok.lt p hp).1 _ (ok.lt q hq).1 e
theorem is_ig {ks : List Nat} {im : Im} (ok : ImOk n n ks im) (h : Is_ g im) {z : Nat} (hz : z ∈ ks) : ig im z = g z := h.lk (ok.get hz)
theorem fresh_of {im ps : Im} (h1 : (ps.map (·.2)).Nodup) (h2 : ∀ y ∈ ps.map (·.2), y ∉ im.map (·.2)) : freshB im ps = true := by
  unfold freshB
  rw [Bool.and_eq_true, decide_eq_true_eq, decide_eq_true_eq]
  exact ⟨h1, h2⟩
theorem allTo_PI (GS : Good n s) (GT : Good n t) : ∀ {i : Nat}, i ≤ (partsOf s n).length → ∀ im ∈ allTo s t n n i, PI n s t ((partsOf s n).take i).flatten im
  | 0, _, im, h => by
    have : im = [] := by simpa [allTo] using h
    subst this
    exact PI.nil
  | i + 1, hi, im', h => by
    obtain ⟨r, hr⟩ : ∃ r, (partsOf s n)[i]? = some r := ⟨_, List.getElem?_eq_getElem (by omega)⟩
    rw [allTo_succ hr] at h
    obtain ⟨im, him, h⟩ := List.mem_flatMap.mp h
    obtain ⟨y, hy, e⟩ := List.mem_filterMap.mp h
    have ih := allTo_PI GS GT (i := i) (by omega) im him
    obtain ⟨p1, p2⟩ := part_head GS.toBack (List.mem_of_getElem? hr)
    unfold extY at e
    cases hm : mtch s t n (r.headD 0) y with
    | none => rw [hm] at e; cases e
    | some ps =>
      rw [hm] at e
      by_cases hf : freshB im ps = true
      · have e : (if freshB im ps = true then some (im ++ ps) else none) = some im' := e
        rw [if_pos hf] at e
        cases e
        have := ih.ext GS.toForm GT.toForm p1 (List.mem_range.mp hy) (parts_take GS.toBack hr) hm hf
        rw [← p2] at this
        rw [List.take_add_one, hr, List.flatten_append]
        simpa using this
      · have e : (if freshB im ps = true then some (im ++ ps) else none) = some im' := e
        rw [if_neg hf] at e
        cases e
theorem allTo_all (GS : Good n s) (GT : Good n t) (I : Iso n s t g) : ∀ {i : Nat}, i ≤ (partsOf s n).length → ∃ im ∈ allTo s t n n i, Is_ g im
  | 0, _ => ⟨[], by simp [allTo], fun p hp => by cases hp⟩
  | i + 1, hi => by
    obtain ⟨r, hr⟩ : ∃ r, (partsOf s n)[i]? = some r := ⟨_, List.getElem?_eq_getElem (by omega)⟩
    obtain ⟨im, him, h⟩ := allTo_all GS GT I (i := i) (by omega)
    have PIm := allTo_PI GS GT (by omega) im him
    obtain ⟨p1, p2⟩ := part_head GS.toBack (List.mem_of_getElem? hr)
    have F := GS.toForm
    have hlt := bfs_lt F p1
    obtain ⟨ps, hm, hi⟩ := mtch_is (t := t) (g := g) F p1 fun z hz c hc => I.hom z (hlt z hz) c hc
    obtain ⟨ok, _⟩ := mtch_ok F GT.toForm p1 (I.lt _ p1) hm
    have hk := mtch_keys F.three hm
    refine ⟨im ++ ps, ?_, h.app hi⟩
    rw [allTo_succ hr]
    refine List.mem_flatMap.mpr ⟨im, him, List.mem_filterMap.mpr ⟨g (r.headD 0), List.mem_range.mpr (I.lt _ p1), ?_⟩⟩
    unfold extY
    rw [hm]
    refine if_pos (fresh_of (is_vals I ok hi) fun y hy q => ?_)
    obtain ⟨p, hp, rfl⟩ := List.mem_map.mp hy
    obtain ⟨p', hp', e⟩ := List.mem_map.mp q
    have e1 : p'.2 = p.2 := e
    rw [h p' hp', hi p hp] at e1
    have e2 := I.inj _ (PIm.ok.ok.lt p' hp').1 _ (ok.lt p hp).1 e1
    refine parts_take GS.toBack hr p'.1 ?_ ?_
    · rw [← PIm.ok.keys]
      exact List.mem_map.mpr ⟨p', hp', rfl⟩
    · rw [← hk, e2]
      exact List.mem_map.mpr ⟨p, hp, rfl⟩
theorem rowOf_eq (n : Nat) (im : Im) : rowOf n im = (List.range n).map (ig im) := rfl
theorem all_keys (GS : Good n s) : ∀ z < n, z ∈ ((partsOf s n).take (partsOf s n).length).flatten := fun z hz => by
  rw [List.take_length]
  exact (partsOf_inv GS.toBack).all z hz
theorem mem_all (GS : Good n s) (GT : Good n t) {r : List Nat} : r ∈ (allTo s t n n (partsOf s n).length).map (rowOf n) ↔ ∃ g, Iso n s t g ∧ r = (List.range n).map g := by
  constructor
  · intro h
    obtain ⟨im, him, rfl⟩ := List.mem_map.mp h
    have PIm := allTo_PI GS GT (Nat.le_refl _) im him
    exact ⟨ig im, PIm.iso (all_keys GS), rfl⟩
  · rintro ⟨g, I, rfl⟩
    obtain ⟨im, him, h⟩ := allTo_all GS GT I (Nat.le_refl _)
    have PIm := allTo_PI GS GT (Nat.le_refl _) im him
    refine List.mem_map.mpr ⟨im, him, ?_⟩
    rw [rowOf_eq]
    exact List.map_congr_left fun z hz => is_ig PIm.ok h (all_keys GS z (List.mem_range.mp hz))
/-! ### the greedy one -/
theorem findSome_least {β : Type} {f : Nat → Option β} {b : β} : ∀ {m : Nat}, (List.range m).findSome? f = some b → ∃ y < m, f y = some b ∧ ∀ w < y, f w = none
  | 0, h => by simp at h
  | m + 1, h => by
    rw [List.range_succ, List.findSome?_append] at h
    cases h1 : (List.range m).findSome? f with
    | some b' =>
      rw [h1] at h
      have h : some b' = some b := h
      cases h
      obtain ⟨y, hy, e, k⟩ := findSome_least h1
      exact ⟨y, by omega, e, k⟩
    | none =>
      rw [h1, Option.none_or] at h
      have h2 := List.findSome?_eq_none_iff.mp h1
      refine ⟨m, by omega, ?_, fun w hw => h2 w (List.mem_range.mpr hw)⟩
      cases hf : f m with
      | none => simp [hf] at h
      | some c => simpa [hf] using h
theorem freeSp_least {m x : Nat} {tk : List Nat} {ps : Im} (h : freeSp s t n m x tk = some ps) : ∃ y, y < m ∧ y ∉ tk ∧ mtch s t n x y = some ps ∧ (ps.map (·.2)).Nodup ∧ ∀ w < y, w ∉ tk → okM s t n x w = none := by
  obtain ⟨y, hy, e, k⟩ := findSome_least h
  by_cases m : y ∈ tk
  · rw [if_pos m] at e
    cases e
  · rw [if_neg m] at e
    obtain ⟨h1, h2⟩ := okM_some e
    exact ⟨y, hy, m, h1, h2, fun w hw hn => by
      have := k w hw
      rwa [if_neg hn] at this⟩
theorem okM_of {x y : Nat} {ps : Im} (h : mtch s t n x y = some ps) (hn : (ps.map (·.2)).Nodup) : okM s t n x y = some ps := by
  unfold okM
  rw [h]
  exact if_pos hn
theorem greedy_step {m i : Nat} {im' : Im} (h : greedyTo s t n m (i + 1) = some im') : ∃ im, greedyTo s t n m i = some im ∧ ((i ∈ im.map (·.1) ∧ im' = im) ∨ (i ∉ im.map (·.1) ∧ ∃ ps, freeSp s t n m i (im.map (·.2)) = some ps ∧ im' = im ++ ps)) := by
  rw [greedyTo_succ] at h
  cases hg : greedyTo s t n m i with
  | none => rw [hg] at h; cases h
  | some im =>
    rw [hg] at h
    have h : (if i ∈ im.map (·.1) then some im else match freeSp s t n m i (im.map (·.2)) with | none => none | some ps => some (im ++ ps)) = some im' := h
    refine ⟨im, rfl, ?_⟩
    by_cases hk : i ∈ im.map (·.1)
    · rw [if_pos hk] at h
      cases h
      exact .inl ⟨hk, rfl⟩
    · rw [if_neg hk] at h
      cases hf : freeSp s t n m i (im.map (·.2)) with
      | none => rw [hf] at h; cases h
      | some ps =>
        rw [hf] at h
        cases h
        exact .inr ⟨hk, ps, rfl, rfl⟩
theorem greedy_PI (GS : Good n s) (GT : Good n t) : ∀ {i : Nat} {im : Im}, i ≤ n → greedyTo s t n n i = some im → PI n s t (partsTo s n i).flatten im
  | 0, im, _, h => by
    cases h
    exact PI.nil
  | i + 1, im', hi, h => by
    obtain ⟨im, hg, h⟩ := greedy_step h
    have ih := greedy_PI GS GT (by omega) hg
    have hin : i < n := by omega
    rw [partsTo_succ]
    unfold partsStep
    rcases h with ⟨hk, rfl⟩ | ⟨hk, ps, hf, rfl⟩
    · rw [ih.ok.keys] at hk
      rw [if_pos hk]
      exact ih
    · rw [ih.ok.keys] at hk
      rw [if_neg hk]
      obtain ⟨y, hy, hyt, hm, hnd⟩ := freeSp_some hf
      have := ih.ext GS.toForm GT.toForm hin hy (fun z hz q => bfs_out GS.toBack (partsTo_inv GS.toBack i (by omega)).cl hin hk z q hz) hm (fresh_of hnd (ih.out GS GT hin hy hyt hm hnd))
      simpa using this
/-- what is chosen goes on -/
theorem exch (GS : Good n s) (GT : Good n t) {ks : List Nat} {im ps : Im} {x y : Nat} (h : PI n s t ks im) (hcl : ∀ z ∈ ks, ∀ ch ∈ s, ch.getD z 0 ∈ ks) (hx : x < n) (hxk : x ∉ ks) (hy : y < n) (hyv : y ∉ im.map (·.2)) (hm : mtch s t n x y = some ps) (hnd : (ps.map (·.2)).Nodup) (I : Iso n s t g) (hg : Is_ g im) :
    ∃ g', Iso n s t g' ∧ Is_ g' (im ++ ps) := by
  have F := GS.toForm
  have G := GT.toForm
  obtain ⟨ok, _⟩ := mtch_ok F G hx hy hm
  have hk := mtch_keys F.three hm
  have okP : ImOk n n (bfs s n x) ps := ⟨ok, hk, hnd⟩
  obtain ⟨_, hhom⟩ := mtch_hom F G hx hy hm
  have hout := h.out GS GT hx hy hyv hm hnd
  have hPk := bfs_out GS.toBack hcl hx hxk
  have hPn := bfs_lt F hx
  obtain ⟨sw, hsw⟩ : ∃ sw : Im, sw = ps.map fun p => (p.2, p.1) := ⟨_, rfl⟩
  have okS : MOk n n sw := by
    refine ⟨by rw [hsw, List.map_map]; exact hnd, fun p hp => ?_⟩
    rw [hsw] at hp
    obtain ⟨q, hq, rfl⟩ := List.mem_map.mp hp
    exact ⟨(ok.lt q hq).2, (ok.lt q hq).1⟩
  have fA : ∀ z ∈ bfs s n x, ig ps z ∈ ps.map (·.2) ∧ ig sw (ig ps z) = z := fun z hz => by
    have h1 := lk_mem (okP.get hz)
    exact ⟨List.mem_map.mpr ⟨_, h1, rfl⟩, ig_of (lk_of okS (p := (ig ps z, z)) (by rw [hsw]; exact List.mem_map.mpr ⟨_, h1, rfl⟩))⟩
  have fB : ∀ v ∈ ps.map (·.2), ig sw v ∈ bfs s n x ∧ ig ps (ig sw v) = v ∧ v < n := fun v hv => by
    obtain ⟨p, hp, rfl⟩ := List.mem_map.mp hv
    have h1 : ig sw p.2 = p.1 := ig_of (lk_of okS (p := (p.2, p.1)) (by rw [hsw]; exact List.mem_map.mpr ⟨p, hp, rfl⟩))
    show ig sw p.2 ∈ _ ∧ ig ps (ig sw p.2) = p.2 ∧ p.2 < n
    rw [h1]
    exact ⟨by rw [← hk]; exact List.mem_map.mpr ⟨p, hp, rfl⟩, ig_of (lk_of ok hp), (ok.lt p hp).2⟩
  have clP := cl_ap F (bfs_closed F hx)
  have fC : ∀ v ∈ ps.map (·.2), ∀ c < 3, ap t c v ∈ ps.map (·.2) ∧ ig sw (ap t c v) = ap s c (ig sw v) := fun v hv c hc => by
    obtain ⟨b1, b2, b3⟩ := fB v hv
    have e := ig_of (hhom _ b1 c hc)
    rw [b2] at e
    have := fA _ (clP _ b1 c hc)
    rw [e] at this
    exact this
  have fD : ∀ z < n, z ∉ bfs s n x → ∀ c < 3, ap s c z ∉ bfs s n x := fun z hz hn c hc q => hn (by
    have := clP _ q c hc
    rwa [GS.apInv hc hz] at this)
  have fE : ∀ v < n, v ∉ ps.map (·.2) → ∀ c < 3, ap t c v ∉ ps.map (·.2) := fun v hv hn c hc q => hn (by
    have := (fC _ q c hc).1
    rwa [GT.apInv hc hv] at this)
  have fF : ∀ p ∈ bfs s n x, g p ∈ ps.map (·.2) → ∀ z < n, g z ∈ ps.map (·.2) → z ∈ bfs s n x := fun p hp hgp z hz hgz => by
    obtain ⟨b1, b2, b3⟩ := fB _ hgp
    have all := bfs_leastA F (hPn _ b1) (P := fun z => z ∈ bfs s n x ∧ ∃ w ∈ bfs s n x, ig ps z = g w) (fun z hz hq c hc => by
      obtain ⟨q1, w, hw, e⟩ := hq
      refine ⟨clP z q1 c hc, _, clP w hw c hc, ?_⟩
      rw [ig_of (hhom z q1 c hc), e, I.hom w (hPn w hw) c hc]) ⟨b1, p, hp, b2⟩
    obtain ⟨c1, c2, c3⟩ := fB _ hgz
    obtain ⟨_, w, hw, e⟩ := all _ ((bfs_same GS.toBack hx b1 _).mpr c1)
    rw [c2] at e
    rw [I.inj z hz w (hPn w hw) e]
    exact hw
  have hAp : ∀ {z c}, z < n → c < 3 → ap s c z < n := fun hz hc => F.at hc hz
  refine ⟨fun z => if z ∈ bfs s n x then ig ps z else if g z ∈ ps.map (·.2) then g (ig sw (g z)) else g z, ⟨?_, ?_, ?_⟩, ?_⟩
  · intro z hz
    show (if z ∈ bfs s n x then ig ps z else if g z ∈ ps.map (·.2) then g (ig sw (g z)) else g z) < n
    by_cases h1 : z ∈ bfs s n x
    · rw [if_pos h1]
      exact (fB _ (fA z h1).1).2.2
    · rw [if_neg h1]
      by_cases h2 : g z ∈ ps.map (·.2)
      · rw [if_pos h2]
        exact I.lt _ (hPn _ (fB _ h2).1)
      · rw [if_neg h2]
        exact I.lt z hz
  · have key : ∀ z < n, ∀ w < n, z ∈ bfs s n x → w ∉ bfs s n x → ig ps z ≠ (if g w ∈ ps.map (·.2) then g (ig sw (g w)) else g w) := fun z hz w hw h1 h2 e => by
      have hQ := (fA z h1).1
      by_cases h3 : g w ∈ ps.map (·.2)
      · rw [if_pos h3] at e
        rw [e] at hQ
        exact h2 (fF _ (fB _ h3).1 hQ w hw h3)
      · rw [if_neg h3] at e
        exact h3 (e ▸ hQ)
    have key2 : ∀ z < n, ∀ w < n, z ∉ bfs s n x → w ∉ bfs s n x → g z ∈ ps.map (·.2) → g w ∉ ps.map (·.2) → g (ig sw (g z)) ≠ g w := fun z hz w hw h1 h2 h3 h4 e => by
      have := I.inj _ (hPn _ (fB _ h3).1) w hw e
      exact h2 (this ▸ (fB _ h3).1)
    intro z hz w hw e
    have e : (if z ∈ bfs s n x then ig ps z else if g z ∈ ps.map (·.2) then g (ig sw (g z)) else g z) = (if w ∈ bfs s n x then ig ps w else if g w ∈ ps.map (·.2) then g (ig sw (g w)) else g w) := e
    by_cases h1 : z ∈ bfs s n x
    · rw [if_pos h1] at e
      by_cases h2 : w ∈ bfs s n x
      · rw [if_pos h2] at e
        rw [← (fA z h1).2, e, (fA w h2).2]
      · rw [if_neg h2] at e
        exact absurd e (key z hz w hw h1 h2)
    · rw [if_neg h1] at e
      by_cases h2 : w ∈ bfs s n x
      · rw [if_pos h2] at e
        exact absurd e.symm (key w hw z hz h2 h1)
      · rw [if_neg h2] at e
        by_cases h3 : g z ∈ ps.map (·.2)
        · rw [if_pos h3] at e
          by_cases h4 : g w ∈ ps.map (·.2)
          · rw [if_pos h4] at e
            have e2 := I.inj _ (hPn _ (fB _ h3).1) _ (hPn _ (fB _ h4).1) e
            have e3 : g z = g w := by rw [← (fB _ h3).2.1, e2, (fB _ h4).2.1]
            exact I.inj z hz w hw e3
          · rw [if_neg h4] at e
            exact absurd e (key2 z hz w hw h1 h2 h3 h4)
        · rw [if_neg h3] at e
          by_cases h4 : g w ∈ ps.map (·.2)
          · rw [if_pos h4] at e
            exact absurd e.symm (key2 w hw z hz h2 h1 h4 h3)
          · rw [if_neg h4] at e
            exact I.inj z hz w hw e
  · intro z hz c hc
    show (if ap s c z ∈ bfs s n x then ig ps (ap s c z) else if g (ap s c z) ∈ ps.map (·.2) then g (ig sw (g (ap s c z))) else g (ap s c z)) = ap t c (if z ∈ bfs s n x then ig ps z else if g z ∈ ps.map (·.2) then g (ig sw (g z)) else g z)
    by_cases h1 : z ∈ bfs s n x
    · rw [if_pos h1, if_pos (clP z h1 c hc), ig_of (hhom z h1 c hc)]
    · rw [if_neg h1, if_neg (fD z hz h1 c hc), I.hom z hz c hc]
      by_cases h2 : g z ∈ ps.map (·.2)
      · obtain ⟨c1, c2⟩ := fC _ h2 c hc
        rw [if_pos h2, if_pos c1, c2, I.hom _ (hPn _ (fB _ h2).1) c hc]
      · rw [if_neg h2, if_neg (fE _ (I.lt z hz) h2 c hc)]
  · intro p hp
    show p.2 = (if p.1 ∈ bfs s n x then ig ps p.1 else if g p.1 ∈ ps.map (·.2) then g (ig sw (g p.1)) else g p.1)
    rcases List.mem_append.mp hp with hp | hp
    · have hpk : p.1 ∈ ks := by rw [← h.ok.keys]; exact List.mem_map.mpr ⟨p, hp, rfl⟩
      rw [if_neg (fun q => hPk _ q hpk), ← hg p hp, if_neg (fun q => hout _ q (List.mem_map.mpr ⟨p, hp, rfl⟩))]
    · rw [if_pos (by rw [← hk]; exact List.mem_map.mpr ⟨p, hp, rfl⟩), ig_of (lk_of ok hp)]
/-- a flag's own image is a choice -/
theorem own_choice (GS : Good n s) (GT : Good n t) {ks : List Nat} {im : Im} {x : Nat} (h : PI n s t ks im) (hx : x < n) (hxk : x ∉ ks) (I : Iso n s t g) (hg : Is_ g im) : g x ∉ im.map (·.2) ∧ ∃ ps, mtch s t n x (g x) = some ps ∧ Is_ g ps ∧ okM s t n x (g x) = some ps := by
  have F := GS.toForm
  have hlt := bfs_lt F hx
  obtain ⟨ps, hm, hi⟩ := mtch_is (t := t) (g := g) F hx fun z hz c hc => I.hom z (hlt z hz) c hc
  obtain ⟨ok, _⟩ := mtch_ok F GT.toForm hx (I.lt _ hx) hm
  refine ⟨fun q => ?_, ps, hm, hi, okM_of hm (is_vals I ok hi)⟩
  obtain ⟨p, hp, e⟩ := List.mem_map.mp q
  have e : p.2 = g x := e
  rw [hg p hp] at e
  have e2 := I.inj _ (h.ok.ok.lt p hp).1 _ hx e
  exact hxk (by rw [← e2, ← h.ok.keys]; exact List.mem_map.mpr ⟨p, hp, rfl⟩)
theorem greedy_all (GS : Good n s) (GT : Good n t) (I0 : Iso n s t g) : ∀ {i : Nat}, i ≤ n → ∃ im g', greedyTo s t n n i = some im ∧ Iso n s t g' ∧ Is_ g' im
  | 0, _ => ⟨[], g, rfl, I0, fun p hp => by cases hp⟩
  | i + 1, hi => by
    obtain ⟨im, g', hg, I, h⟩ := greedy_all GS GT I0 (i := i) (by omega)
    have P := greedy_PI GS GT (by omega) hg
    have hin : i < n := by omega
    by_cases hk : i ∈ im.map (·.1)
    · refine ⟨im, g', ?_, I, h⟩
      rw [greedyTo_succ, hg]
      exact if_pos hk
    · have hk2 := hk
      rw [P.ok.keys] at hk2
      obtain ⟨c1, ps, c2, c3, c4⟩ := own_choice GS GT P hin hk2 I h
      have hne : freeSp s t n n i (im.map (·.2)) ≠ none := fun q => by
        have := List.findSome?_eq_none_iff.mp q (g' i) (List.mem_range.mpr (I.lt _ hin))
        rw [if_neg c1, c4] at this
        cases this
      cases hf : freeSp s t n n i (im.map (·.2)) with
      | none => exact absurd hf hne
      | some qs =>
        obtain ⟨y, hy, hyt, hm, hnd⟩ := freeSp_some hf
        obtain ⟨g2, I2, h2⟩ := exch GS GT P (partsTo_inv GS.toBack i (by omega)).cl hin hk2 hy hyt hm hnd I h
        refine ⟨im ++ qs, g2, ?_, I2, h2⟩
        rw [greedyTo_succ, hg]
        show (if i ∈ im.map (·.1) then some im else match freeSp s t n n i (im.map (·.2)) with | none => none | some ps => some (im ++ ps)) = _
        rw [if_neg hk, hf]
theorem greedy_least (GS : Good n s) (GT : Good n t) (I : Iso n s t g) : ∀ {i : Nat} {im : Im}, i ≤ n → greedyTo s t n n i = some im → Is_ g im ∨ ∃ j, j ∈ (partsTo s n i).flatten ∧ (∀ k < j, k ∈ (partsTo s n i).flatten ∧ ig im k = g k) ∧ ig im j < g j
  | 0, im, _, h => by
    cases h
    exact .inl fun p hp => by cases hp
  | i + 1, im', hi, h => by
    obtain ⟨im, hg, h⟩ := greedy_step h
    have P := greedy_PI GS GT (by omega) hg
    have ih := greedy_least GS GT I (by omega) hg
    have hin : i < n := by omega
    have PV := partsTo_inv GS.toBack i (by omega)
    rw [partsTo_succ]
    unfold partsStep
    rcases h with ⟨hk, rfl⟩ | ⟨hk, ps, hf, rfl⟩
    · rw [P.ok.keys] at hk
      rw [if_pos hk]
      exact ih
    · rw [P.ok.keys] at hk
      rw [if_neg hk]
      have e : (partsTo s n i ++ [bfs s n i]).flatten = (partsTo s n i).flatten ++ bfs s n i := by simp
      rw [e]
      have hold : ∀ k ∈ (partsTo s n i).flatten, ig (im ++ ps) k = ig im k := fun k hk => ig_of (lk_app (P.ok.get hk))
      rcases ih with ih | ⟨j, j1, j2, j3⟩
      · obtain ⟨c1, qs, c2, c3, c4⟩ := own_choice GS GT P hin hk I ih
        obtain ⟨y, hy, hyt, hm, hnd, hl⟩ := freeSp_least hf
        have hle : ¬ g i < y := fun q => by
          have := hl _ q c1
          rw [c4] at this
          cases this
        by_cases hyg : y = g i
        · rw [hyg, c2] at hm
          cases hm
          exact .inl (ih.app c3)
        · refine .inr ⟨i, List.mem_append_right _ (bfs_mem GS.toForm hin), fun k hki => ?_, ?_⟩
          · have := PV.all k hki
            exact ⟨List.mem_append_left _ this, by rw [hold k this]; exact is_ig P.ok ih this⟩
          · have e1 : ig (im ++ ps) i = y := by
              have : lk im i = none := P.ok.gnone hk
              refine ig_of ?_
              rw [lk_app_none this]
              exact (mtch_hom GS.toForm GT.toForm hin hy hm).1
            rw [e1]
            omega
      · exact .inr ⟨j, List.mem_append_left _ j1, fun k hk => ⟨List.mem_append_left _ (j2 k hk).1, by rw [hold k (j2 k hk).1]; exact (j2 k hk).2⟩, by rw [hold j j1]; exact j3⟩
end
end Nk
/-! ## P3: the greedy one is the least of all -/
namespace Nk
open PySem PySem.Spec PyProof.Rows L2 Evl

theorem lt_pre {a b : Nat} (h : a < b) (u v : List Nat) : ∀ p : List Nat, PyProof.Rows.lexLt itemOrd (PySem.W.keyToksAll ((p ++ a :: u).map encN)) (PySem.W.keyToksAll ((p ++ b :: v).map encN)) = true
  | [] => by
    show PyProof.Rows.lexLt itemOrd (PySem.W.keyToksAll (encN a :: u.map encN)) (PySem.W.keyToksAll (encN b :: v.map encN)) = true
    rw [PySem.W.toks_all_cons, PySem.W.toks_all_cons, PyProof.Rows.lex_self (O := itemOrd)]
    unfold encN
    rw [PySem.W.keyToks, PySem.W.keyToks]
    show PyProof.Rows.lexLt itemOrd (Sum.inl (a : Int) :: _) (Sum.inl (b : Int) :: _) = true
    rw [PyProof.Rows.lex_diff (O := itemOrd) (fun q => by have := Sum.inl.inj q; omega)]
    exact decide_eq_true (show (a : Int) < b by omega)
  | x :: p => by
    show PyProof.Rows.lexLt itemOrd (PySem.W.keyToksAll (encN x :: (p ++ a :: u).map encN)) (PySem.W.keyToksAll (encN x :: (p ++ b :: v).map encN)) = true
    rw [PySem.W.toks_all_cons, PySem.W.toks_all_cons, PyProof.Rows.lex_self (O := itemOrd), PySem.W.lex_pre]
    exact lt_pre h u v p
theorem row_lt {n j : Nat} {g h : Nat → Nat} (hj : j < n) (he : ∀ k < j, g k = h k) (hl : g j < h j) : PySem.W.dataLt (encR ((List.range n).map g)) (encR ((List.range n).map h)) = true := by
  have e : List.range n = List.range j ++ j :: (List.range n).drop (j + 1) := by
    have h1 := List.drop_eq_getElem_cons (l := List.range n) (i := j) (by simpa using hj)
    rw [List.getElem_range] at h1
    rw [← h1]
    have h2 := List.take_append_drop j (List.range n)
    rw [List.take_range, Nat.min_eq_left (Nat.le_of_lt hj)] at h2
    exact h2.symm
  have e2 : (List.range j).map g = (List.range j).map h := List.map_congr_left fun k hk => he k (List.mem_range.mp hk)
  have eg : (List.range n).map g = (List.range j).map h ++ g j :: ((List.range n).drop (j + 1)).map g := by
    conv => lhs; rw [e]
    rw [List.map_append, List.map_cons, e2]
  have eh : (List.range n).map h = (List.range j).map h ++ h j :: ((List.range n).drop (j + 1)).map h := by
    conv => lhs; rw [e]
    rw [List.map_append, List.map_cons]
  unfold PySem.W.dataLt encR
  rw [PySem.W.keyToks, PySem.W.keyToks, eg, eh]
  exact lt_pre hl _ _ _
theorem head_least {rows : List (List Nat)} {r : List Nat} (hr : r ∈ rows) (hl : ∀ q ∈ rows, PySem.W.dataLt (encR q) (encR r) = false) : (rows.mergeSort (PySem.W.dataLe false encR)).head? = some r := by
  have hp := List.mergeSort_perm rows (PySem.W.dataLe false encR)
  have hs := PySem.W.sort_pairwise (PySem.W.sortLe_total (listOrd itemOrd) false fun b : List Nat => PySem.W.keyToks (encR b)) rows
  have hs : (rows.mergeSort (PySem.W.dataLe false encR)).Pairwise (fun a b => PySem.W.dataLe false encR a b = true) := hs
  generalize rows.mergeSort (PySem.W.dataLe false encR) = l at hp hs
  cases l with
  | nil => exact absurd (hp.mem_iff.mpr hr) (by simp)
  | cons h tl =>
    obtain ⟨h1, _⟩ := List.pairwise_cons.mp hs
    rcases List.mem_cons.mp (hp.mem_iff.mpr hr) with e | hm
    · rw [e]
      rfl
    · have h2 := h1 r hm
      have h3 : PySem.W.dataLt (encR r) (encR h) = false := by
        have h2 : (!PySem.W.dataLt (encR r) (encR h)) = true := h2
        rwa [Bool.not_eq_true'] at h2
      have h4 := hl h (hp.mem_iff.mp List.mem_cons_self)
      have := eqv_R.mp (dl_tot (alike_R r h) h3 h4)
      rw [this]
      rfl
theorem found_head {n m : Nat} {s t : Net} (GS : Good n s) (GT : Good m t) : foundL s t n m = (allRows s t n m).head? := by
  by_cases hmn : m = n
  · subst hmn
    rw [show allRows s t m m = ((allTo s t m m (partsOf s m).length).map (rowOf m)).mergeSort (PySem.W.dataLe false encR) from if_neg (fun z => z rfl)]
    rw [show foundL s t m m = (greedyTo s t m m m).map fun im => (List.range m).map fun f => (lk im f).getD 0 from if_neg (fun z => z rfl)]
    cases hg : greedyTo s t m m m with
    | none =>
      have : (allTo s t m m (partsOf s m).length).map (rowOf m) = [] := by
        cases h : (allTo s t m m (partsOf s m).length).map (rowOf m) with
        | nil => rfl
        | cons r l =>
          obtain ⟨g, I, _⟩ := (mem_all GS GT).mp (h ▸ List.mem_cons_self : r ∈ _)
          obtain ⟨im, _, e, _⟩ := greedy_all GS GT I (Nat.le_refl m)
          rw [hg] at e
          cases e
      rw [this, List.mergeSort_nil]
      rfl
    | some im =>
      have P := greedy_PI GS GT (Nat.le_refl m) hg
      have hall := (partsOf_inv GS.toBack).all
      have I := P.iso hall
      rw [head_least (r := (List.range m).map (ig im)) ((mem_all GS GT).mpr ⟨_, I, rfl⟩) fun q hq => ?_]
      · rfl
      · obtain ⟨g, J, rfl⟩ := (mem_all GS GT).mp hq
        rcases greedy_least GS GT J (Nat.le_refl m) hg with h | ⟨j, j1, j2, j3⟩
        · have : (List.range m).map g = (List.range m).map (ig im) := List.map_congr_left fun z hz => (is_ig P.ok h (hall z (List.mem_range.mp hz))).symm
          rw [this]
          exact dl_irr _
        · exact dl_asym (row_lt ((partsOf_inv GS.toBack).lt j j1) (fun k hk => (j2 k hk).2) j3)
  · rw [show allRows s t n m = [] from if_pos (fun z => hmn z.symm), show foundL s t n m = none from if_pos hmn]
    rfl
theorem rows_iff {n : Nat} {s t : Net} (GS : Good n s) (GT : Good n t) : allRows s t n n ≠ [] ↔ ∃ g, Iso n s t g := by
  rw [show allRows s t n n = ((allTo s t n n (partsOf s n).length).map (rowOf n)).mergeSort (PySem.W.dataLe false encR) from if_neg (fun z => z rfl)]
  have hp := List.mergeSort_perm ((allTo s t n n (partsOf s n).length).map (rowOf n)) (PySem.W.dataLe false encR)
  constructor
  · intro h
    obtain ⟨r, hr⟩ := List.exists_mem_of_ne_nil _ h
    obtain ⟨g, I, _⟩ := (mem_all GS GT).mp (hp.mem_iff.mp hr)
    exact ⟨g, I⟩
  · rintro ⟨g, I⟩ h
    have := hp.mem_iff.mpr ((mem_all GS GT).mpr ⟨g, I, rfl⟩)
    rw [h] at this
    cases this
end Nk
/-! ## P4: least forms are the same exactly if the nets are alike -/
namespace Nk
open PySem PySem.Spec PyProof.Rows L2 Evl

section
variable {n m : Nat} {s t : Net}
/-! ### a least form is the net in another order -/
theorem net_ext {a b : Net} (ha : a.length = 3) (hb : b.length = 3) (h : ∀ c < 3, a.getD c [] = b.getD c []) : a = b := by
  refine List.ext_getElem? fun i => ?_
  by_cases hi : i < 3
  · have := h i hi
    rw [List.getD_eq_getElem?_getD, List.getD_eq_getElem?_getD, List.getElem?_eq_getElem (by omega), List.getElem?_eq_getElem (by omega)] at this
    rw [List.getElem?_eq_getElem (by omega), List.getElem?_eq_getElem (by omega)]
    exact congrArg some this
  · rw [List.getElem?_eq_none (by omega), List.getElem?_eq_none (by omega)]
theorem renum_at (F : Form n s) {row : List Nat} {c : Nat} (hc : c < 3) : (renum s row).getD c [] = row.map fun f => row.idxOf (ap s c f) := by
  obtain ⟨ch, hch, hg, hl, hm⟩ := F.get hc
  unfold renum ap
  rw [List.getD_eq_getElem?_getD (l := s.map _), List.getElem?_map, hch, hg]
  rfl
theorem laid_at {a b : Net} {k c : Nat} (hc : c < 3) : (laid k a b).getD c [] = a.getD c [] ++ (b.getD c []).map (· + k) := by
  unfold laid
  rw [List.getD_eq_getElem?_getD (l := (List.range 3).map _), List.getElem?_map, List.getElem?_range hc]
  rfl
theorem renum_app (F : Form n s) {r q : List Nat} (h1 : ∀ z ∈ r, ∀ c < 3, ap s c z ∈ r) (h2 : ∀ z ∈ q, ∀ c < 3, ap s c z ∈ q) (hd : (r ++ q).Nodup) : laid r.length (renum s r) (renum s q) = renum s (r ++ q) := by
  refine net_ext (by unfold laid; simp) (renum_len.trans F.three) fun c hc => ?_
  rw [laid_at hc, renum_at F hc, renum_at F hc, renum_at F hc, List.map_append, List.map_map]
  congr 1
  · refine List.map_congr_left fun z hz => ?_
    rw [List.idxOf_append, if_pos (h1 z hz c hc)]
  · refine List.map_congr_left fun z hz => ?_
    rw [List.idxOf_append, if_neg (fun q' => (List.nodup_append.mp hd).2.2 _ q' _ (h2 z hz c hc) rfl)]
    rfl
def rowP (s : Net) (r : List Nat) : Nat × Net := (r.length, renum s r)
theorem lay_renum (F : Form n s) : ∀ (rs : List (List Nat)) (r : List Nat), (∀ q ∈ r :: rs, ∀ z ∈ q, ∀ c < 3, ap s c z ∈ q) → (r ++ rs.flatten).Nodup → (rs.map (rowP s)).foldl layStep (rowP s r) = rowP s (r ++ rs.flatten)
  | [], r, _, _ => by simp
  | q :: rs, r, h, hd => by
    have hr := h r List.mem_cons_self
    have hq := h q (List.mem_cons_of_mem _ List.mem_cons_self)
    rw [List.flatten_cons, ← List.append_assoc] at hd ⊢
    have e : layStep (rowP s r) (rowP s q) = rowP s (r ++ q) := by
      unfold layStep rowP
      rw [List.length_append]
      show (r.length + q.length, laid r.length (renum s r) (renum s q)) = _
      rw [renum_app F hr hq (List.nodup_append.mp hd).1]
    rw [List.map_cons, List.foldl_cons, e]
    refine lay_renum F rs (r ++ q) (fun p hp z hz c hc => ?_) hd
    rcases List.mem_cons.mp hp with rfl | hp
    · rcases List.mem_append.mp hz with hz | hz
      · exact List.mem_append_left _ (hr z hz c hc)
      · exact List.mem_append_right _ (hq z hz c hc)
    · exact h p (List.mem_cons_of_mem _ (List.mem_cons_of_mem _ hp)) z hz c hc
theorem rows_of (B : Back n s) : ∀ L : List (List Nat), (∀ r ∈ L, r ∈ partsOf s n) → ∃ rs : List (List Nat), L.map (fun r => (r.length, leastRd s n r)) = rs.map (rowP s) ∧ rs.flatten.Perm L.flatten ∧ ∀ q ∈ rs, ∀ z ∈ q, ∀ c < 3, ap s c z ∈ q
  | [], _ => ⟨[], rfl, .nil, fun q hq => by cases hq⟩
  | r :: L, h => by
    obtain ⟨rs, e, hp, hc⟩ := rows_of B L fun q hq => h q (List.mem_cons_of_mem _ hq)
    have hr := h r List.mem_cons_self
    obtain ⟨⟨x, hx, ex⟩, _⟩ := leastRd_spec (s := s) (n := n) (part_ne B hr)
    obtain ⟨hl, hxn⟩ := part_bfs B hr hx
    obtain ⟨f, hf, rfl, _⟩ := (partsOf_inv B).row r hr
    have hperm : (bfs s n x).Perm (bfs s n f) := (List.perm_ext_iff_of_nodup (bfs_nodup B.toForm hxn) (bfs_nodup B.toForm hf)).mpr (bfs_same B hf hx)
    refine ⟨bfs s n x :: rs, ?_, ?_, fun q hq => ?_⟩
    · rw [List.map_cons, List.map_cons, e, ex]
      unfold rowP rdg
      rw [hl]
    · rw [List.flatten_cons, List.flatten_cons]
      exact hperm.append hp
    · rcases List.mem_cons.mp hq with rfl | hq
      · exact cl_ap B.toForm (bfs_closed B.toForm hxn)
      · exact hc q hq
theorem least_renum (G : Good n s) : ∃ row : List Nat, row.Perm (List.range n) ∧ leastNet s n = renum s row := by
  have B := G.toBack
  have e1 : sprs s n = ((partsOf s n).mergeSort (PySem.W.dataLe false fun r : List Nat => encP (r.length, leastRd s n r))).map fun r => (r.length, leastRd s n r) :=
    (PySem.W.sort_maps (r := PySem.W.dataLe false fun r : List Nat => encP (r.length, leastRd s n r)) (s := PySem.W.dataLe false encP) (fun r : List Nat => (r.length, leastRd s n r)) (l := partsOf s n) (fun _ _ _ _ => rfl)).symm
  have hp := List.mergeSort_perm (partsOf s n) (PySem.W.dataLe false fun r : List Nat => encP (r.length, leastRd s n r))
  generalize (partsOf s n).mergeSort (PySem.W.dataLe false fun r : List Nat => encP (r.length, leastRd s n r)) = L at e1 hp
  obtain ⟨rs, e2, hf, hc⟩ := rows_of B L fun r hr => hp.mem_iff.mp hr
  have I := partsOf_inv B
  have hflat : rs.flatten.Perm (partsOf s n).flatten := hf.trans hp.flatten
  have hrange : (partsOf s n).flatten.Perm (List.range n) := (List.perm_ext_iff_of_nodup I.nd List.nodup_range).mpr fun z => ⟨fun hz => List.mem_range.mpr (I.lt z hz), fun hz => I.all z (List.mem_range.mp hz)⟩
  have hall := hflat.trans hrange
  have hnd : rs.flatten.Nodup := hall.nodup_iff.mpr List.nodup_range
  refine ⟨rs.flatten, hall, ?_⟩
  unfold leastNet
  rw [e1, e2]
  cases rs with
  | nil =>
    have h1 := hall.length_eq
    have h2 := G.four
    rw [List.length_range, List.flatten_nil, List.length_nil] at h1
    omega
  | cons r rs =>
    show ((rs.map (rowP s)).foldl layStep (rowP s r)).2 = _
    rw [List.flatten_cons] at hnd ⊢
    rw [lay_renum B.toForm rs r hc hnd]
    rfl
theorem iso_of_least (GS : Good n s) (GT : Good m t) (h : leastNet s n = leastNet t m) : n = m ∧ ∃ g, Iso n s t g := by
  obtain ⟨a, ha, ea⟩ := least_renum GS
  obtain ⟨b, hb, eb⟩ := least_renum GT
  have F := GS.toForm
  have G := GT.toForm
  have e : renum s a = renum t b := by rw [← ea, ← eb, h]
  have la : a.length = n := by rw [ha.length_eq, List.length_range]
  have lb : b.length = m := by rw [hb.length_eq, List.length_range]
  have hnm : n = m := by
    have h0 := congrArg (fun x => (x.getD 0 []).length) e
    simp only [renum_at F (show 0 < 3 by omega), renum_at G (show 0 < 3 by omega), List.length_map] at h0
    omega
  subst hnm
  have ma : ∀ z, z ∈ a ↔ z < n := fun z => by rw [ha.mem_iff, List.mem_range]
  have mb : ∀ z, z ∈ b ↔ z < n := fun z => by rw [hb.mem_iff, List.mem_range]
  have nda : a.Nodup := ha.nodup_iff.mpr List.nodup_range
  have ndb : b.Nodup := hb.nodup_iff.mpr List.nodup_range
  have ix : ∀ z < n, a.idxOf z < n := fun z hz => by rw [← la]; exact List.idxOf_lt_length_iff.mpr ((ma z).mpr hz)
  have bt : ∀ i < n, b[i]? = some (b.getD i 0) := fun i hi => by rw [List.getD_eq_getElem?_getD, List.getElem?_eq_getElem (by omega)]; rfl
  refine ⟨rfl, fun z => b.getD (a.idxOf z) 0, fun z hz => ?_, fun z hz w hw q => ?_, fun z hz c hc => ?_⟩
  · exact (mb _).mp (List.mem_of_getElem? (bt _ (ix z hz)))
  · have q : b.getD (a.idxOf z) 0 = b.getD (a.idxOf w) 0 := q
    have h1 := idx_of ndb (bt _ (ix z hz))
    have h2 := idx_of ndb (bt _ (ix w hw))
    rw [q, h2] at h1
    exact idx_inj ((ma z).mpr hz) ((ma w).mpr hw) h1.symm
  · show b.getD (a.idxOf (ap s c z)) 0 = ap t c (b.getD (a.idxOf z) 0)
    have h1 := renum_ap F hc (row_at ((ma z).mpr hz))
    have h2 := renum_ap G hc (bt _ (ix z hz))
    rw [e, h2] at h1
    rw [← h1]
    have hin : ap t c (b.getD (a.idxOf z) 0) ∈ b := (mb _).mpr (G.at hc ((mb _).mp (List.mem_of_getElem? (bt _ (ix z hz)))))
    have := row_at hin
    rw [List.getD_eq_getElem?_getD, this]
    rfl
/-! ### alike nets have one least form -/
variable {g : Nat → Nat}
theorem vis1_map {row : List Nat} {z : Nat} (hi : ∀ x ∈ row, g x = g z → x = z) : (vis1 row z).map g = vis1 (row.map g) (g z) := by
  unfold vis1
  by_cases h : z ∈ row
  · rw [if_pos h, if_pos (List.mem_map.mpr ⟨z, h, rfl⟩)]
  · rw [if_neg h, if_neg (fun q => by
      obtain ⟨x, hx, e⟩ := List.mem_map.mp q
      exact h (hi x hx e ▸ hx)), List.map_append]
    rfl
theorem vis_at (F : Form n s) {k x : Nat} {row : List Nat} (hk : k < 3) : visit (s.take (k + 1)) x row = vis1 (visit (s.take k) x row) (ap s k x) := by
  obtain ⟨ch, hch, hg, _, _⟩ := F.get hk
  rw [visit_take hch]
  unfold ap
  rw [hg]
theorem visit_map (F : Form n s) (G : Form n t) (I : Iso n s t g) {x : Nat} (hx : x < n) {row : List Nat} (hr : ∀ z ∈ row, z < n) : ∀ k ≤ 3, (∀ z ∈ visit (s.take k) x row, z < n) ∧ (visit (s.take k) x row).map g = visit (t.take k) (g x) (row.map g)
  | 0, _ => ⟨hr, rfl⟩
  | k + 1, hk => by
    obtain ⟨h1, h2⟩ := visit_map F G I hx hr k (by omega)
    have ha := F.at (show k < 3 by omega) hx
    rw [vis_at F (by omega), vis_at G (by omega), ← h2, ← I.hom x hx k (by omega)]
    refine ⟨fun z hz => ?_, vis1_map fun z hz e => I.inj z (h1 z hz) _ ha e⟩
    rcases mem_vis1.mp hz with hz | rfl
    · exact h1 z hz
    · exact ha
theorem bfsGo_map (F : Form n s) (G : Form n t) (I : Iso n s t g) : ∀ (k i : Nat) (row : List Nat), (∀ z ∈ row, z < n) → (bfsGo s k row i).map g = bfsGo t k (row.map g) i
  | 0, i, row, _ => rfl
  | k + 1, i, row, hr => by
    show (if i < row.length then bfsGo s k (visit s (row.getD i 0) row) (i + 1) else row).map g = if i < (row.map g).length then bfsGo t k (visit t ((row.map g).getD i 0) (row.map g)) (i + 1) else row.map g
    rw [List.length_map]
    by_cases hi : i < row.length
    · rw [if_pos hi, if_pos hi]
      have e1 : row.getD i 0 = row[i] := by rw [List.getD_eq_getElem?_getD, List.getElem?_eq_getElem hi]; rfl
      have e2 : (row.map g).getD i 0 = g row[i] := by rw [List.getD_eq_getElem?_getD, List.getElem?_map, List.getElem?_eq_getElem hi]; rfl
      obtain ⟨h1, h2⟩ := visit_map F G I (hr _ (List.getElem_mem hi)) hr 3 (Nat.le_refl 3)
      rw [List.take_of_length_le (by rw [F.three]; omega)] at h1 h2
      rw [List.take_of_length_le (by rw [G.three]; omega)] at h2
      rw [e1, e2, ← h2]
      exact bfsGo_map F G I k (i + 1) _ h1
    · rw [if_neg hi, if_neg hi]
theorem bfs_map (F : Form n s) (G : Form n t) (I : Iso n s t g) {x : Nat} (hx : x < n) : (bfs s n x).map g = bfs t n (g x) := bfsGo_map F G I n 0 [x] fun z hz => by rw [List.mem_singleton.mp hz]; exact hx
theorem idx_map : ∀ {row : List Nat} {z : Nat}, (∀ x ∈ row, g x = g z → x = z) → (row.map g).idxOf (g z) = row.idxOf z
  | [], z, _ => rfl
  | x :: row, z, h => by
    rw [List.map_cons, List.idxOf_cons, List.idxOf_cons]
    by_cases e : x = z
    · subst e
      simp
    · have e2 : ¬ g x = g z := fun q => e (h x List.mem_cons_self q)
      have h1 : (g x == g z) = false := by simpa using e2
      have h2 : (x == z) = false := by simpa using e
      rw [h1, h2, idx_map fun y hy => h y (List.mem_cons_of_mem _ hy)]
theorem renum_map (F : Form n s) (G : Form n t) (I : Iso n s t g) {row : List Nat} (hr : ∀ z ∈ row, z < n) : renum t (row.map g) = renum s row := by
  refine net_ext (renum_len.trans G.three) (renum_len.trans F.three) fun c hc => ?_
  rw [renum_at F hc, renum_at G hc, List.map_map]
  refine List.map_congr_left fun z hz => ?_
  show (row.map g).idxOf (ap t c (g z)) = _
  rw [← I.hom z (hr z hz) c hc]
  exact idx_map fun x hx e => I.inj x (hr x hx) _ (F.at hc (hr z hz)) e
theorem rdg_map (F : Form n s) (G : Form n t) (I : Iso n s t g) {x : Nat} (hx : x < n) : rdg t n (g x) = rdg s n x := by
  unfold rdg
  rw [← bfs_map F G I hx]
  exact renum_map F G I (bfs_lt F hx)
theorem iso_onto (I : Iso n s t g) {y : Nat} (hy : y < n) : ∃ x < n, g x = y := by
  have nd := nodup_mapOn (f := g) (List.nodup_range (n := n)) fun a ha b hb e => I.inj a (List.mem_range.mp ha) b (List.mem_range.mp hb) e
  have lt : ∀ z ∈ (List.range n).map g, z < n := fun z hz => by
    obtain ⟨x, hx, rfl⟩ := List.mem_map.mp hz
    exact I.lt x (List.mem_range.mp hx)
  by_cases h : y ∈ (List.range n).map g
  · obtain ⟨x, hx, e⟩ := List.mem_map.mp h
    exact ⟨x, List.mem_range.mp hx, e⟩
  · have := nodup_le (n := n) (List.nodup_cons.mpr ⟨h, nd⟩) fun z hz => by
      rcases List.mem_cons.mp hz with rfl | hz
      · exact hy
      · exact lt z hz
    simp at this
    omega
/-- the parts as sets -/
theorem srt_eq {l k : List Nat} (h : l.Perm k) : srt l = srt k := srt_uniq ((srt_perm l).trans h) (srt_le l)
theorem bfs_srt (B : Back n s) {x y : Nat} (hx : x < n) (hy : y ∈ bfs s n x) : srt (bfs s n y) = srt (bfs s n x) :=
  srt_eq ((List.perm_ext_iff_of_nodup (bfs_nodup B.toForm (bfs_lt B.toForm hx y hy)) (bfs_nodup B.toForm hx)).mpr (bfs_same B hx hy))
theorem mem_sets (B : Back n s) {X : List Nat} : X ∈ (partsOf s n).map srt ↔ ∃ y < n, X = srt (bfs s n y) := by
  constructor
  · intro h
    obtain ⟨r, hr, rfl⟩ := List.mem_map.mp h
    obtain ⟨f, hf, rfl, _⟩ := (partsOf_inv B).row r hr
    exact ⟨f, hf, rfl⟩
  · rintro ⟨y, hy, rfl⟩
    obtain ⟨r, hr, hyr⟩ := List.mem_flatten.mp ((partsOf_inv B).all y hy)
    refine List.mem_map.mpr ⟨r, hr, ?_⟩
    obtain ⟨f, hf, rfl, _⟩ := (partsOf_inv B).row r hr
    exact (bfs_srt B hf hyr).symm
theorem sets_nodup : ∀ {L : List (List Nat)}, L.flatten.Nodup → (∀ r ∈ L, r ≠ []) → (L.map srt).Nodup
  | [], _, _ => by simp
  | r :: L, h, hne => by
    rw [List.flatten_cons] at h
    obtain ⟨_, h2, h3⟩ := List.nodup_append.mp h
    rw [List.map_cons]
    refine List.nodup_cons.mpr ⟨fun q => ?_, sets_nodup h2 fun q hq => hne q (List.mem_cons_of_mem _ hq)⟩
    obtain ⟨r', hr', e⟩ := List.mem_map.mp q
    obtain ⟨z, hz⟩ := List.exists_mem_of_ne_nil _ (hne r List.mem_cons_self)
    have : z ∈ r' := mem_srt.mp (by rw [e]; exact mem_srt.mpr hz)
    exact h3 z hz z (List.mem_flatten.mpr ⟨r', hr', this⟩) rfl
def keyS (s : Net) (n : Nat) (r : List Nat) : Nat × Net := (r.length, leastRd s n r)
theorem keyS_srt (B : Back n s) {r : List Nat} (hr : r ≠ []) : keyS s n (srt r) = keyS s n r := by
  unfold keyS
  rw [srt_len, leastRd_srt hr]
theorem prs_sets (B : Back n s) : prsOf s n = ((partsOf s n).map srt).map (keyS s n) := by
  rw [List.map_map]
  exact List.map_congr_left fun r hr => (keyS_srt B (part_ne B hr)).symm
theorem prs_perm (GS : Good n s) (GT : Good n t) (I : Iso n s t g) : (prsOf s n).Perm (prsOf t n) := by
  have F := GS.toForm
  have G := GT.toForm
  have BS := GS.toBack
  have BT := GT.toBack
  have ltS : ∀ X ∈ (partsOf s n).map srt, ∀ z ∈ X, z < n := fun X hX z hz => by
    obtain ⟨y, hy, rfl⟩ := (mem_sets BS).mp hX
    exact bfs_lt F hy z (mem_srt.mp hz)
  have hne : ∀ X ∈ (partsOf s n).map srt, X ≠ [] := fun X hX q => by
    obtain ⟨y, hy, rfl⟩ := (mem_sets BS).mp hX
    have := mem_srt.mpr (bfs_mem F hy)
    rw [q] at this
    cases this
  have key : ∀ X ∈ (partsOf s n).map srt, keyS t n (srt (X.map g)) = keyS s n X := fun X hX => by
    have hX0 := hne X hX
    have hm0 : X.map g ≠ [] := fun q => hX0 (List.map_eq_nil_iff.mp q)
    rw [keyS_srt BT hm0]
    unfold keyS
    rw [List.length_map]
    congr 1
    exact leastRd_set hm0 hX0 (fun y hy => by
      obtain ⟨x, hx, rfl⟩ := List.mem_map.mp hy
      exact ⟨x, hx, rdg_map F G I (ltS X hX x hx)⟩) fun x hx => ⟨g x, List.mem_map.mpr ⟨x, hx, rfl⟩, rdg_map F G I (ltS X hX x hx)⟩
  have gs : ∀ y < n, srt ((srt (bfs s n y)).map g) = srt (bfs t n (g y)) := fun y hy => by
    rw [← bfs_map F G I hy]
    exact srt_eq ((srt_perm _).map g)
  have hp : (((partsOf s n).map srt).map fun X => srt (X.map g)).Perm ((partsOf t n).map srt) := by
    refine (List.perm_ext_iff_of_nodup (nodup_mapOn (sets_nodup (partsOf_inv BS).nd fun r hr => part_ne BS hr) fun X hX Y hY e => ?_) (sets_nodup (partsOf_inv BT).nd fun r hr => part_ne BT hr)).mpr fun Z => ?_
    · obtain ⟨x, hx, rfl⟩ := (mem_sets BS).mp hX
      obtain ⟨y, hy, rfl⟩ := (mem_sets BS).mp hY
      have hgx : g x ∈ srt ((srt (bfs s n x)).map g) := mem_srt.mpr (List.mem_map.mpr ⟨x, mem_srt.mpr (bfs_mem F hx), rfl⟩)
      rw [e] at hgx
      obtain ⟨w, hw, ew⟩ := List.mem_map.mp (mem_srt.mp hgx)
      have hwy := mem_srt.mp hw
      have := I.inj w (bfs_lt F hy w hwy) x hx ew
      rw [this] at hwy
      exact bfs_srt BS hy hwy
    · rw [mem_sets BT]
      constructor
      · intro h
        obtain ⟨X, hX, rfl⟩ := List.mem_map.mp h
        obtain ⟨x, hx, rfl⟩ := (mem_sets BS).mp hX
        exact ⟨g x, I.lt x hx, gs x hx⟩
      · rintro ⟨y, hy, rfl⟩
        obtain ⟨x, hx, rfl⟩ := iso_onto I hy
        exact List.mem_map.mpr ⟨srt (bfs s n x), (mem_sets BS).mpr ⟨x, hx, rfl⟩, gs x hx⟩
  rw [prs_sets BS, prs_sets BT]
  have h2 := hp.map (keyS t n)
  rw [List.map_map] at h2
  rwa [show List.map (keyS t n ∘ fun X => srt (X.map g)) ((partsOf s n).map srt) = ((partsOf s n).map srt).map (keyS s n) from List.map_congr_left key] at h2
theorem least_of_iso (GS : Good n s) (GT : Good n t) (I : Iso n s t g) : leastNet s n = leastNet t n := by
  have hp := prs_perm GS GT I
  have e : sprs s n = sprs t n := by
    have h1 := PySem.W.sort_pairwise (PySem.W.sortLe_total (listOrd itemOrd) false fun b : Nat × Net => PySem.W.keyToks (encP b)) (prsOf s n)
    have h2 := PySem.W.sort_pairwise (PySem.W.sortLe_total (listOrd itemOrd) false fun b : Nat × Net => PySem.W.keyToks (encP b)) (prsOf t n)
    refine List.Perm.eq_of_pairwise (le := fun a b => PySem.W.dataLe false encP a b = true) (fun a b _ _ q1 q2 => ?_) h1 h2 ((sprs_perm s n).trans (hp.trans (sprs_perm t n).symm))
    have q1 : (!PySem.W.dataLt (encP b) (encP a)) = true := q1
    have q2 : (!PySem.W.dataLt (encP a) (encP b)) = true := q2
    rw [Bool.not_eq_true'] at q1 q2
    have := dl_tot (alike_P a b) q2 q1
    unfold encP at this
    rw [PyData.eqv, PyData.eqvAll, PyData.eqvAll, Bool.and_eq_true, Bool.and_eq_true] at this
    obtain ⟨a1, a2⟩ := a
    obtain ⟨b1, b2⟩ := b
    have e1 : a1 = b1 := by
      have := this.1
      unfold encN at this
      have : (a1 : Int) = (b1 : Int) := by simpa [PyData.eqv] using this
      omega
    have e2 : a2 = b2 := eqv_Net.mp this.2.1
    rw [e1, e2]
  unfold leastNet
  rw [e]
end
theorem least_iff {n m : Nat} {s t : Net} (GS : Good n s) (GT : Good m t) : leastNet s n = leastNet t m ↔ allRows s t n m ≠ [] := by
  constructor
  · intro h
    obtain ⟨rfl, g, I⟩ := iso_of_least GS GT h
    exact (rows_iff GS GT).mpr ⟨g, I⟩
  · intro h
    by_cases e : n = m
    · subst e
      obtain ⟨g, I⟩ := (rows_iff GS GT).mp h
      exact least_of_iso GS GT I
    · exact absurd (if_pos e) h
end Nk
/-! ## P5: one part, two parts, bent nets -/
namespace Nk
open PySem PySem.Spec PyProof.Rows L2 Evl

section
variable {n m : Nat} {s t : Net}
/-! ### how many parts -/
theorem parts_cover : ∀ (L : List (List Nat)) (C : List Nat), L.flatten.Nodup → (∀ r ∈ L, ∃ f ∈ C, f ∈ r) → L.length ≤ C.length
  | [], _, _, _ => Nat.zero_le _
  | r :: L, C, nd, h => by
    obtain ⟨f, hf, hfr⟩ := h r List.mem_cons_self
    rw [List.flatten_cons] at nd
    obtain ⟨_, n2, n3⟩ := List.nodup_append.mp nd
    have := parts_cover L (C.erase f) n2 fun q hq => by
      obtain ⟨f', hf', hfq⟩ := h q (List.mem_cons_of_mem _ hq)
      refine ⟨f', ?_, hfq⟩
      have : f' ≠ f := fun e => n3 f hfr f (List.mem_flatten.mpr ⟨q, hq, e ▸ hfq⟩) rfl
      exact (List.mem_erase_of_ne this).mpr hf'
    have hl := List.length_erase_of_mem hf
    have hp : 0 < C.length := List.length_pos_of_mem hf
    rw [List.length_cons]
    omega
theorem parts_le (B : Back n s) (C : List Nat) (h : ∀ z < n, ∃ f ∈ C, f < n ∧ z ∈ bfs s n f) : (partsOf s n).length ≤ C.length := by
  refine parts_cover _ C (partsOf_inv B).nd fun r hr => ?_
  obtain ⟨g, hg, rfl, _⟩ := (partsOf_inv B).row r hr
  obtain ⟨f, hf, hfn, hz⟩ := h g hg
  exact ⟨f, hf, bfs_sym B hfn hz⟩
theorem one_all (F : Form n s) {f : Nat} (hf : f < n) (h : (bfs s n f).length = n) : ∀ z < n, z ∈ bfs s n f := fun z hz => by
  by_cases m : z ∈ bfs s n f
  · exact m
  · have := nodup_le (n := n) (List.nodup_cons.mpr ⟨m, bfs_nodup F hf⟩) fun x hx => by
      rcases List.mem_cons.mp hx with rfl | hx
      · exact hz
      · exact bfs_lt F hf x hx
    simp at this
    omega
theorem one_parts (B : Back n s) (h : One n s) : (partsOf s n).length ≤ 1 := by
  obtain ⟨f, hf, hl⟩ := h
  exact parts_le B [f] fun z hz => ⟨f, List.mem_cons_self, hf, one_all B.toForm hf hl z hz⟩
theorem of_all (F : Form n s) {f : Nat} (hf : f < n) (h : ∀ z < n, z ∈ bfs s n f) : One n s := by
  refine ⟨f, hf, ?_⟩
  have hp : (bfs s n f).Perm (List.range n) := (List.perm_ext_iff_of_nodup (bfs_nodup F hf) List.nodup_range).mpr fun z => ⟨fun hz => List.mem_range.mpr (bfs_lt F hf z hz), fun hz => h z (List.mem_range.mp hz)⟩
  rw [hp.length_eq, List.length_range]
/-- a reading has one part -/
theorem good_rdg (G : Good n s) {f : Nat} (hf : f < n) : Good (bfs s n f).length (rdg s n f) :=
  good_renum G (bfs_nodup G.toForm hf) (bfs_lt G.toForm hf) (bfs_closed G.toForm hf) fun e => by
    have := bfs_mem G.toForm hf
    rw [e] at this
    cases this
theorem one_rdg (G : Good n s) {f : Nat} (hf : f < n) : One (bfs s n f).length (rdg s n f) := by
  have F := G.toForm
  have GR := good_rdg G hf
  have nd := bfs_nodup F hf
  have h0 : 0 < (bfs s n f).length := List.length_pos_of_mem (bfs_mem F hf)
  obtain ⟨tl, htl⟩ := bfs_head F hf
  have i0 : (bfs s n f).idxOf f = 0 := by rw [htl, List.idxOf_cons_self]
  have key := bfs_leastA F hf (P := fun z => (bfs s n f).idxOf z ∈ bfs (rdg s n f) (bfs s n f).length 0) (fun z hz hq c hc => by
    have e := renum_ap F hc (row_at hz)
    have h1 := cl_ap GR.toForm (bfs_closed GR.toForm h0) _ hq c hc
    have e : ap (rdg s n f) c ((bfs s n f).idxOf z) = (bfs s n f).idxOf (ap s c z) := e
    rwa [e] at h1) (by rw [i0]; exact bfs_mem GR.toForm h0)
  refine of_all GR.toForm h0 fun i hi => ?_
  have := key _ (List.getElem_mem hi)
  rwa [idx_of nd (List.getElem?_eq_getElem hi)] at this
/-! ### two nets beside one another -/
theorem laid_lo (F : Form n s) {c z : Nat} (hc : c < 3) (hz : z < n) : ap (laid n s t) c z = ap s c z := by
  obtain ⟨ch, hch, hg, hl, hm⟩ := F.get hc
  unfold ap
  rw [laid_at hc, hg, List.getD_eq_getElem?_getD, List.getD_eq_getElem?_getD (l := ch), List.getElem?_append_left (by omega)]
theorem laid_hi (F : Form n s) (G : Form m t) {c z : Nat} (hc : c < 3) (hz : z < m) : ap (laid n s t) c (n + z) = ap t c z + n := by
  obtain ⟨ch, hch, hg, hl, hm⟩ := F.get hc
  obtain ⟨ch2, hch2, hg2, hl2, hm2⟩ := G.get hc
  unfold ap
  rw [laid_at hc, hg, hg2, List.getD_eq_getElem?_getD, List.getD_eq_getElem?_getD, List.getElem?_append_right (by omega), List.getElem?_map, show n + z - ch.length = z by omega, List.getElem?_eq_getElem (show z < ch2.length by omega)]
  rfl
theorem lo_hi {z : Nat} (hz : z < n + m) : z < n ∨ ∃ y < m, z = n + y := by
  by_cases h : z < n
  · exact .inl h
  · exact .inr ⟨z - n, by omega, by omega⟩
theorem good_laid (G : Good n s) (G2 : Good m t) (h : n + m ≤ 960) : Good (n + m) (laid n s t) := by
  have F := G.toForm
  have F2 := G2.toForm
  have lo : ∀ {c z}, c < 3 → z < n → ap (laid n s t) c z = ap s c z := fun hc hz => laid_lo F hc hz
  have hi : ∀ {c z}, c < 3 → z < m → ap (laid n s t) c (n + z) = n + ap t c z := fun hc hz => by rw [laid_hi F F2 hc hz, Nat.add_comm]
  have a1 : ∀ {c z}, c < 3 → z < n → ap s c z < n := fun hc hz => F.at hc hz
  have a2 : ∀ {c z}, c < 3 → z < m → ap t c z < m := fun hc hz => F2.at hc hz
  refine good_of (laid_form F F2) (by have := G.four; omega) h (fun c hc z hz => ?_) (fun c hc z hz => ?_) (fun f hf => ?_) (fun f hf => ?_)
  · rcases lo_hi hz with hz | ⟨y, hy, rfl⟩
    · rw [lo hc hz, lo hc (a1 hc hz), G.apInv hc hz]
    · rw [hi hc hy, hi hc (a2 hc hy), G2.apInv hc hy]
  · rcases lo_hi hz with hz | ⟨y, hy, rfl⟩
    · rw [lo hc hz]
      exact G.apNe hc hz
    · rw [hi hc hy]
      have := G2.apNe hc hy
      omega
  · rcases lo_hi hf with hz | ⟨y, hy, rfl⟩
    · rw [lo (by omega) hz, lo (by omega) (a1 (by omega) hz), lo (by omega) hz, lo (by omega) (a1 (by omega) hz), G.square f hz]
    · rw [hi (by omega) hy, hi (by omega) (a2 (by omega) hy), hi (by omega) hy, hi (by omega) (a2 (by omega) hy), G2.square y hy]
  · rcases lo_hi hf with hz | ⟨y, hy, rfl⟩
    · rw [lo (by omega) hz, lo (by omega) (a1 (by omega) hz)]
      exact G.apart f hz
    · rw [hi (by omega) hy, hi (by omega) (a2 (by omega) hy)]
      have := G2.apart y hy
      omega
theorem two_parts (G : Good n s) (G2 : Good m t) (h : n + m ≤ 960) (o1 : One n s) (o2 : One m t) : (partsOf (laid n s t) (n + m)).length ≤ 2 := by
  have F := G.toForm
  have F2 := G2.toForm
  have GL := good_laid G G2 h
  have FL := GL.toForm
  obtain ⟨f, hf, h1⟩ := o1
  obtain ⟨g, hg, h2⟩ := o2
  have fL : f < n + m := by omega
  have gL : n + g < n + m := by omega
  refine parts_le GL.toBack [f, n + g] fun z hz => ?_
  rcases lo_hi hz with hz | ⟨y, hy, rfl⟩
  · have := bfs_leastA F hf (P := fun z => z ∈ bfs (laid n s t) (n + m) f) (fun x hx hq c hc => by
      have := cl_ap FL (bfs_closed FL fL) _ hq c hc
      rwa [laid_lo F hc (bfs_lt F hf x hx)] at this) (bfs_mem FL fL) z (one_all F hf h1 z hz)
    exact ⟨f, List.mem_cons_self, fL, this⟩
  · have := bfs_leastA F2 hg (P := fun z => n + z ∈ bfs (laid n s t) (n + m) (n + g)) (fun x hx hq c hc => by
      have := cl_ap FL (bfs_closed FL gL) _ hq c hc
      rwa [laid_hi F F2 hc (bfs_lt F2 hg x hx), Nat.add_comm (ap t c x) n] at this) (bfs_mem FL gL) y (one_all F2 hg h2 y hy)
    exact ⟨n + g, by simp, gL, this⟩
/-! ### how many likenesses may come up -/
theorem parts_four (G : Good n s) : 4 * (partsOf s n).length ≤ n := by
  have h1 := four_take G (Nat.le_refl _)
  rw [List.take_length] at h1
  have h2 := nodup_le (partsOf_inv G.toBack).nd (partsOf_inv G.toBack).lt
  omega
theorem bnd_small : ∀ k ≤ 16, ∀ i ≤ 4, bnd k i ≤ 40000 := by decide +kernel
theorem bnd_two : ∀ k ≤ 32, ∀ i ≤ 2, bnd k i ≤ 40000 := by decide +kernel
theorem bnd16 (G : Good n s) (hn : n ≤ 16) (hm : m ≤ 16) : ∀ i ≤ (partsOf s n).length, bnd m i ≤ 40000 := fun i hi => bnd_small m hm i (by have := parts_four G; omega)
/-! ### bent nets -/
def badN (s : Net) : Net := [s.getD 0 [], s.getD 1 [], s.getD 0 []]
theorem bad_fl (G : Good n s) : Fl (badN s) (some (("apart" : Str), some 0)) := by
  have F := G.toForm
  obtain ⟨c0, hch0, hg0, hl0, hm0⟩ := F.get (c := 0) (by omega)
  obtain ⟨c1, hch1, hg1, hl1, hm1⟩ := F.get (c := 1) (by omega)
  have hb : badN s = [c0, c1, c0] := by unfold badN; rw [hg0, hg1]
  have mem : ∀ r ∈ badN s, r ∈ s := fun r hr => by
    rw [hb] at hr
    simp only [List.mem_cons, List.not_mem_nil, or_false] at hr
    rcases hr with rfl | rfl | rfl
    · exact hm0
    · exact hm1
    · exact hm0
  have FB : Form n (badN s) := ⟨rfl, fun r hr => F.len r (mem r hr), fun r hr => F.lt r (mem r hr)⟩
  have h4 := G.four
  have a0 : ∀ z, ap (badN s) 0 z = c0.getD z 0 := fun z => by rw [hb]; rfl
  have a2 : ∀ z, ap (badN s) 2 z = c0.getD z 0 := fun z => by rw [hb]; rfl
  refine .inr ⟨n, FB, G.four, G.most, ?_⟩
  have r1 : ruleFault (badN s) n "back" = none := rule_none.mpr fun f hf => by
    unfold brk
    rw [if_pos rfl, List.any_eq_false]
    intro ch hc
    rw [G.inv ch (mem ch hc) f hf]
    simp
  have r2 : ruleFault (badN s) n "still" = none := rule_none.mpr fun f hf => by
    unfold brk
    rw [if_neg (by decide), if_pos rfl, List.any_eq_false]
    intro ch hc
    simpa using G.still ch (mem ch hc) f hf
  have r3 : ruleFault (badN s) n "square" = none := rule_none.mpr fun f hf => by
    unfold brk
    rw [if_neg (by decide), if_neg (by decide), if_pos rfl, a0, a2, a2, a0]
    simp
  have r4 : ruleFault (badN s) n "apart" = some 0 := by
    have hr : List.range n = 0 :: (List.range n).drop 1 := by
      have := List.drop_eq_getElem_cons (l := List.range n) (i := 0) (by rw [List.length_range]; omega)
      rw [List.getElem_range] at this
      exact this
    unfold ruleFault
    rw [hr, List.find?_cons_of_pos]
    unfold brk
    rw [if_neg (by decide), if_neg (by decide), if_neg (by decide), a0, a2]
    exact decide_eq_true (G.inv c0 hm0 0 (by omega))
  unfold fltF rules
  rw [List.findSome?_cons, r1, Option.map_none, List.findSome?_cons, r2, Option.map_none, List.findSome?_cons, r3, Option.map_none, List.findSome?_cons, r4]
  rfl
theorem cut_fl {a b : List Nat} : Fl [a, b] (some (("form" : Str), none)) := .inl ⟨(fun z => by cases z), rfl⟩
/-- the least flag of the second part -/
theorem second_eq (B : Back n s) {r : List Nat} (h : (partsOf s n)[1]? = some r) : second s n = r.headD 0 ∧ r ≠ [] := by
  have hm := List.mem_of_getElem? h
  obtain ⟨f, hf, rfl, hle⟩ := (partsOf_inv B).row r hm
  obtain ⟨tl, htl⟩ := bfs_head B.toForm hf
  refine ⟨?_, by rw [htl]; simp⟩
  unfold second
  rw [List.getD_eq_getElem?_getD (l := partsOf s n), h]
  show (srt (bfs s n f)).getD 0 0 = _
  have e1 : (bfs s n f).headD 0 = f := by rw [htl]; rfl
  rw [e1]
  have hne : srt (bfs s n f) ≠ [] := fun e => by
    have := mem_srt.mpr (bfs_mem B.toForm hf)
    rw [e] at this
    cases this
  cases hs : srt (bfs s n f) with
  | nil => exact absurd hs hne
  | cons a l =>
    show a = f
    have ha : f ≤ a := hle a (mem_srt.mp (by rw [hs]; exact List.mem_cons_self))
    have hf2 : f ∈ a :: l := by rw [← hs]; exact mem_srt.mpr (bfs_mem B.toForm hf)
    rcases List.mem_cons.mp hf2 with e | e
    · exact e.symm
    · have := srt_le (bfs s n f)
      rw [hs] at this
      have := (List.pairwise_cons.mp this).1 f e
      omega
/-- the likenesses as rows -/
theorem rows_form (GS : Good n s) (GT : Good m t) {r : List Nat} (hr : r ∈ allRows s t n m) : n = m ∧ ∃ g, Iso n s t g ∧ r = (List.range n).map g := by
  by_cases e : n = m
  · subst e
    refine ⟨rfl, ?_⟩
    rw [show allRows s t n n = ((allTo s t n n (partsOf s n).length).map (rowOf n)).mergeSort (PySem.W.dataLe false encR) from if_neg (fun z => z rfl)] at hr
    exact (mem_all GS GT).mp ((List.mergeSort_perm _ _).mem_iff.mp hr)
  · rw [show allRows s t n m = [] from if_pos e] at hr
    cases hr
theorem rows_ok (GS : Good n s) (GT : Good m t) {r : List Nat} (hr : r ∈ allRows s t n m) : r.length = n ∧ ∀ x ∈ r, x < n := by
  obtain ⟨_, g, I, rfl⟩ := rows_form GS GT hr
  refine ⟨by simp, fun x hx => ?_⟩
  obtain ⟨z, hz, rfl⟩ := List.mem_map.mp hx
  exact I.lt z (List.mem_range.mp hz)
end
end Nk
/-! ## G0: more judgements for the law's guards -/
namespace Nk
open PySem PySem.Spec PyProof.Rows L2 Evl

/-- evaluation to data with empty dicts in them -/
def EvR (K : PySem.W.Frag) (te : TE) (σ : L2.St) (H : Hp) (d : PyData) : Prop := ∀ H1, Ex H H1 → ∀ Q : VK, (∀ v H2, Ex H1 H2 → Dr K H2 v d → Q v H2) → te σ H1 Q
def EvRs (K : PySem.W.Frag) (ta : TA) (σ : L2.St) (H : Hp) (ds : List PyData) : Prop := ∀ H1, Ex H H1 → ∀ Q : List V → Hp → Prop, (∀ vs H2, Ex H1 H2 → DrAll K H2 vs ds → Q vs H2) → ta σ H1 Q
/-- the same where what is told holds without m and g -/
def EvC (K : PySem.W.Frag) (m g : Addr) (te : TE) (σ : L2.St) (H : Hp) (d : PyData) : Prop := ∀ H1, Ex H H1 → ∀ Q : VK, (∀ v H2, Ex H1 H2 → Dr K (cutH m g H2) v d → Q v H2) → te σ H1 Q
def EvCs (K : PySem.W.Frag) (m g : Addr) (ta : TA) (σ : L2.St) (H : Hp) (ds : List PyData) : Prop := ∀ H1, Ex H H1 → ∀ Q : List V → Hp → Prop, (∀ vs H2, Ex H1 H2 → DrAll K (cutH m g H2) vs ds → Q vs H2) → ta σ H1 Q
theorem cut_mono {m g : Addr} {H H' : Hp} (e : Ex H H') : Ex (cutH m g H) (cutH m g H') := fun a o h => by
  unfold cutH at h ⊢
  by_cases q : a = m ∨ a = g
  · rw [if_pos q] at h
    cases h
  · rw [if_neg q] at h ⊢
    exact e _ _ h
section
variable {K : PySem.W.Frag} {σ : L2.St} {H H0 : Hp} {te ta tb tl th : TE} {t : TT} {v : V} {d : PyData} {ds es : List PyData} {D : Ends} {tz : TS} {m c g : Addr} {b : Nat}
theorem dr_lst (h : Dr K H v (.list ds)) : ∃ a xs, v = .ref a ∧ SqL K H a xs ∧ DrAll K H xs ds := by
  cases h with
  | dp h =>
    cases h with
    | @lst a xs _ h1 h2 => exact ⟨a, xs, rfl, h1, drAll_of h2⟩
  | @lst a xs _ h1 h2 => exact ⟨a, xs, rfl, h1, h2⟩
theorem r_g (h : EvG K te σ H (.d d)) : EvR K te σ H d := fun H1 e Q q => h H1 e Q fun v H2 e2 hv => q v H2 e2 (.dp hv)
theorem r_var {i : Nat} (h : σ[i]? = some (some v)) (hv : Dr K H v d) : EvR K (tVar i) σ H d := fun H1 e Q q => ⟨v, h, q v H1 (Ex.refl H1) (dr_mono hv e)⟩
theorem rs_nil : EvRs K tNil σ H [] := fun H1 _ _ q => q [] H1 (Ex.refl H1) .nil
theorem rs_cons {tr : TA} (ha : EvR K ta σ H d) (hr : EvRs K tr σ H ds) : EvRs K (tCons ta tr) σ H (d :: ds) := fun H1 e Q q =>
  ha H1 e _ fun v H2 e2 hv => hr H2 (e.trans e2) _ fun vs H3 e3 hvs => q (v :: vs) H3 (e2.trans e3) (.cons (dr_mono hv e3) hvs)
theorem r_tup {ta : TA} (h : EvRs K ta σ H ds) (hl : ds.length ≤ 100000) : EvR K (tTup ta) σ H (.tuple ds) := fun H1 e Q q =>
  h H1 e _ fun vs H2 e2 hx => ⟨by rw [drAll_len hx]; exact sz_of hl, fun p hp => q (.ref p) _ (e2.trans (Ex.new hp)) (.tup (st_of upd_same) (drAll_mono hx (Ex.new hp)))⟩
theorem r_lst {ta : TA} (h : EvRs K ta σ H ds) (hl : ds.length ≤ 100000) : EvR K (tLst ta) σ H (.list ds) := fun H1 e Q q =>
  h H1 e _ fun vs H2 e2 hx => ⟨by rw [drAll_len hx]; exact sz_of hl, fun p hp => q (.ref p) _ (e2.trans (Ex.new hp)) (.lst (sq_of upd_same) (drAll_mono hx (Ex.new hp)))⟩
theorem drAll_app : ∀ {vs ws : List V} {ds es : List PyData}, DrAll K H vs ds → DrAll K H ws es → DrAll K H (vs ++ ws) (ds ++ es)
  | _, _, _, _, .nil, t => t
  | _, _, _, _, .cons h r, t => .cons h (drAll_app r t)
theorem r_cat (h1 : EvR K ta σ H (.tuple ds)) (h2 : EvR K tb σ H (.tuple es)) (hz : ds.length + es.length ≤ 100000) : EvR K (tOp (rCatA K) ta tb) σ H (.tuple (ds ++ es)) := fun H1 e Q q =>
  h1 H1 e _ fun x H2 e2 hx => h2 H2 (e.trans e2) _ fun y H3 e3 hy => by
    obtain ⟨p, xs, rfl, a1, a2⟩ := dr_tup (dr_mono hx e3)
    obtain ⟨p2, ys, rfl, b1, b2⟩ := dr_tup hy
    have l1 := drAll_len a2
    have l2 := drAll_len b2
    refine ⟨p, p2, xs, ys, rfl, rfl, a1, b1, sz_of (by omega), fun z => ?_, fun _ z => ?_, fun _ _ a ha => ?_⟩
    · subst z
      have : ds = [] := List.length_eq_zero_iff.mp l1.symm
      subst this
      exact q _ _ (e2.trans e3) (.tup b1 b2)
    · subst z
      have : es = [] := List.length_eq_zero_iff.mp l2.symm
      subst this
      rw [List.append_nil] at q
      exact q _ _ (e2.trans e3) (.tup a1 a2)
    · exact q _ _ ((e2.trans e3).trans (Ex.new ha)) (.tup (st_of upd_same) (drAll_mono (drAll_app a2 b2) (Ex.new ha)))
/-- t[lo:] -/
theorem g_slFrom {lo : Nat} (h : EvG K te σ H (.d (.tuple ds))) (h1 : EvG K tl σ H (.d (.int lo))) : EvG K (tSl (rSlA K) te (tPart tl) tNoPart) σ H (.d (.tuple (ds.drop lo))) := fun H1 e Q q =>
  h H1 e _ fun w H2 e2 hw => h1 H2 (e.trans e2) _ fun z H3 e3 hz => by
    cases Dp.int_eq hz
    cases (Dp.mono hw e3) with
    | @tup p xs _ a b =>
      have ec : cutV xs (some (lo : Int)) none = xs.drop lo := by
        unfold cutV
        rw [HT.sIx_none, HT.sIx_nat]
        by_cases hlo : lo ≤ xs.length
        · rw [Nat.min_eq_left hlo, List.take_of_length_le (by rw [List.length_drop]; omega)]
        · rw [Nat.min_eq_right (by omega), List.drop_of_length_le (Nat.le_refl _), List.drop_of_length_le (by omega), List.take_nil]
      refine ⟨(lo : Int), rfl, p, xs, rfl, a, fun hh => ?_, fun _ l hl => ?_⟩
      · have hge : lo = 0 ∨ xs.length = 0 := by
          have := hh.1
          rw [HT.sIx_nat] at this
          omega
        refine q _ _ (e2.trans e3) ?_
        have hd : ds.drop lo = ds := by
          rcases hge with z | z
          · rw [z, List.drop_zero]
          · have : ds = [] := List.length_eq_zero_iff.mp (by rw [← b.length]; exact z)
            rw [this, List.drop_nil]
        rw [hd]
        exact .tup a b
      · rw [ec]
        exact q _ _ ((e2.trans e3).trans (Ex.new hl)) (.tup (st_of upd_same) ((b.drop lo).mono (Ex.new hl)))
theorem q_asgR {i : Nat} (h : EvR K te σ H d) (k : ∀ v H1, Ex H H1 → Dr K H1 v d → tz D (σ.set i (some v)) H1) : tSeq (tAsg te (gName i)) tz D σ H := h H (Ex.refl H) _ fun v H1 e hv => k v H1 e hv
theorem q_asgLR {ta : TA} {i : Nat} (h : EvRs K ta σ H ds) (hl : ds.length ≤ 100000) (k : ∀ p vs H1, Ex H H1 → H1 p = some (.lst vs) → DrAll K H1 vs ds → tz D (σ.set i (some (.ref p))) H1) : tSeq (tAsg (tLst ta) (gName i)) tz D σ H :=
  h H (Ex.refl H) _ fun vs H2 e2 hx => ⟨by rw [drAll_len hx]; exact sz_of hl, fun p hp => k p vs _ (e2.trans (Ex.new hp)) upd_same (drAll_mono hx (Ex.new hp))⟩
/-- xs + [{}] -/
theorem r_catE {i : Nat} {p : Addr} {vs : List V} (h : σ[i]? = some (some (.ref p))) (hp : H p = some (.lst vs)) (hv : DrAll K H vs ds) (hl : ds.length ≤ 10000) : EvR K (tOp rCat (tVar i) (tLst (tCons tDNewK tNil))) σ H (.list (ds ++ [.dict []])) := fun H1 e Q q => by
  have l1 := drAll_len hv
  refine ⟨.ref p, h, fun a ha => ⟨sz_of (by show 1 ≤ 100000; omega), fun l hl' => ?_⟩⟩
  have al : a ≠ l := fun z => by rw [← z, upd_same] at hl'; cases hl'
  have e2 : Ex H1 (upd (upd H1 a (.dK [])) l (.lst [.ref a])) := (Ex.new ha).trans (Ex.new hl')
  refine ⟨p, l, vs, [.ref a], rfl, rfl, e2 _ _ (e _ _ hp), upd_same, sz_of (by show vs.length + 1 ≤ 100000; omega), fun r hr => ?_⟩
  have e3 := e2.trans (Ex.new (o := .lst (vs ++ [.ref a])) hr)
  refine q (.ref r) _ e3 (.lst (sq_of upd_same) (drAll_app (drAll_mono hv (e.trans e3)) (.cons (.emp ?_) .nil)))
  have ar : (upd (upd H1 a (.dK [])) l (.lst [.ref a])) a = some (.dK []) := by
    rw [upd_ne al]
    exact upd_same
  exact (Ex.new hr) _ _ ar
/-- a comprehension over a list of any values -/
theorem g_lcLr {j : Nat} {vs : List Nat} (f : Nat → Bool) (D : Nat → PyData) (h : EvR K tl σ H (.list ds)) (hz : ds.length ≤ 40000) (hw : ∀ x, wipe ((wipe σ vs).set j (some x)) vs = wipe σ vs) (hfl : ∀ i, flatT (D i) = true)
    (ht : ∀ (i : Nat) (x : V) (d : PyData) H1, Ex H H1 → ds[i]? = some d → Dr K H1 x d → EvT t ((wipe σ vs).set j (some x)) H1 (f i))
    (he : ∀ (i : Nat) (x : V) (d : PyData) H1, Ex H H1 → ds[i]? = some d → Dr K H1 x d → f i = true → EvG K te ((wipe σ vs).set j (some x)) H1 (.d (D i))) :
    EvG K (tLc (iList K tl) (gName j) t te vs) σ H (.d (.list (givenD ds.length f D))) := fun H0 e Q q => by
  refine h H0 e _ fun w H1 e1 hw1 => ?_
  obtain ⟨p, xs, rfl, h1, h2⟩ := dr_lst hw1
  refine ⟨p, rfl, ⟨xs, h1⟩, fun Dl hD => ?_⟩
  rw [← drAll_len h2] at q
  refine lc_list (xs := xs) (CwG K H1 f D Dl) (cwg_start hD) (fun i H' _ p => ex_l p.2.1 h1) (fun i x H' hi p => ?_) (fun H' p => q _ H' (e1.trans p.2.1) (cwg_done p))
  obtain ⟨d, hd, hp⟩ := drAll_getv h2 hi
  exact ⟨hw x, cwg_turn p (by have := (List.getElem?_eq_some_iff.mp hi).1; have := drAll_len h2; omega) hfl (ht i x d H1 (e.trans e1) hd hp) (fun hf => he i x d H1 (e.trans e1) hd hp hf)⟩
/-! ### evaluation to what holds without m and g -/
theorem c_flat (W : Wd m c g b H0 H) (h : EvG K te σ H (.d d)) (f : flatT d = true) : EvC K m g te σ H d := fun H1 e Q q => h H1 e Q fun v H2 e2 hv => q v H2 e2 (.dp ((W.step (e.trans e2)).cutT hv f))
theorem Wd.fresh {p : Addr} (W : Wd m c g b H0 H) (hp : H p = none) : p ≠ m ∧ p ≠ g := by
  refine ⟨fun z => ?_, fun z => ?_⟩
  · obtain ⟨_, _, h⟩ := W.hm
    rw [← z, hp] at h
    cases h
  · obtain ⟨_, h⟩ := W.hg
    rw [← z, hp] at h
    cases h
theorem c_nil (W : Wd m c g b H0 H) : EvC K m g (tLst tNil) σ H (.list []) := fun H1 e Q q =>
  ⟨sz_of (by show 0 ≤ 100000; omega), fun p hp => q (.ref p) _ (Ex.new hp) (.dp (.lst (sq_of (by
    rw [cut_at ((W.step e).fresh hp).1 ((W.step e).fresh hp).2]
    exact upd_same)) .nil))⟩
theorem c_dnew (W : Wd m c g b H0 H) : EvC K m g tDNewK σ H (.dict []) := fun H1 e Q q p hp => q (.ref p) _ (Ex.new hp) (.emp (by
    rw [cut_at ((W.step e).fresh hp).1 ((W.step e).fresh hp).2]
    exact upd_same))
theorem cs_nil : EvCs K m g tNil σ H [] := fun H1 _ _ q => q [] H1 (Ex.refl H1) .nil
theorem cs_cons {tr : TA} (ha : EvC K m g ta σ H d) (hr : EvCs K m g tr σ H ds) : EvCs K m g (tCons ta tr) σ H (d :: ds) := fun H1 e Q q =>
  ha H1 e _ fun v H2 e2 hv => hr H2 (e.trans e2) _ fun vs H3 e3 hvs => q (v :: vs) H3 (e2.trans e3) (.cons (dr_mono hv (cut_mono e3)) hvs)
/-- one of some things -/
theorem of_things {ta : TA} {i : Nat} {E : XK} (W : Wd m c g b H0 H) (hb : b ≤ 1000000) (h : EvCs K m g ta σ H ds) (hm : σ[i]? = some (some (.ref m))) (h0 : 0 < ds.length) (h1 : ds.length ≤ 1000) :
    ∀ Q : VK, (∀ v H' Hk, (∃ d, d ∈ ds ∧ Dr K Hk v d) → Ex (cutH m g H) Hk → Wd m c g (b + 1) Hk H' → Q v H') → tCall (spOf K) [] E (tCons (tVar i) (tCons (tLst ta) tNil)) σ H Q := fun Q q => by
  refine ⟨.ref m, hm, ?_⟩
  refine h H (Ex.refl H) _ fun vs H2 e2 hvs => ⟨by rw [drAll_len hvs]; exact sz_of (by omega), fun l hl => ?_⟩
  have W2 := W.step e2
  obtain ⟨lm, lg⟩ := W2.fresh hl
  have W3 := W2.step (Ex.new (o := .lst vs) hl)
  have hlen := drAll_len hvs
  refine ⟨m, c, g, l, b, cutH m g (upd H2 l (.lst vs)), vs, rfl, W3.full, hb, sq_of (by rw [cut_at lm lg]; exact upd_same), by omega, by omega, fun i y H4 hy W4 => ?_⟩
  obtain ⟨d, hd, hy2⟩ := drAll_getv hvs hy
  exact q y H4 (cutH m g (upd H2 l (.lst vs))) ⟨d, List.mem_of_getElem? hd, dr_mono hy2 (cut_mono (Ex.new hl))⟩ (cut_mono (e2.trans (Ex.new hl))) W4
theorem q_asgW {i : Nat} (M : V → Hp → Prop) (h : ∀ Q : VK, (∀ v H', M v H' → Q v H') → te σ H Q) (k : ∀ v H', M v H' → tz D (σ.set i (some v)) H') : tSeq (tAsg te (gName i)) tz D σ H := h _ k
/-! ### calls -/
theorem spg_all {n k : Nat} {s t : Net} (G : Good n s) (F : Form k t) (hn : n ≤ 1000) (hk : k ≤ 1000) (hb : ∀ i ≤ (partsOf s n).length, bnd k i ≤ 40000) : SpG K (spAll K) H [.d (encNet s), .d (encNet t)] (.d (.list ((allRows s t n k).map encR))) := fun vs H1 e hv Q E q => by
  match vs, hv with
  | [a, b], hv => exact ⟨a, b, n, k, s, t, rfl, hv.1, hv.2.1, G, F, hn, hk, hb, q⟩
theorem spg_like2 {n k : Nat} {s t : Net} (G : Good n s) (G2 : Good k t) : SpG K (spLike2 K) H [.d (encNet s), .d (encNet t)] (.d (optR (foundL s t n k))) := fun vs H1 e hv Q E q => by
  match vs, hv with
  | [a, b], hv => exact ⟨a, b, n, k, s, t, rfl, hv.1, hv.2.1, G, G2, q⟩
theorem spg_alike {n k : Nat} {s t : Net} (G : Good n s) (G2 : Good k t) : SpG K (spAlike K) H [.d (encNet s), .d (encNet t)] (.d (.bool (foundL s t n k).isSome)) := fun vs H1 e hv Q E q => by
  match vs, hv with
  | [a, b], hv => exact ⟨a, b, n, k, s, t, rfl, hv.1, hv.2.1, G, G2, q⟩
theorem spg_least {n : Nat} {s : Net} (G : Good n s) : SpG K (spLeastNet K) H [.d (encNet s)] (.d (encNet (leastNet s n))) := fun vs H1 e hv Q E q => by
  match vs, hv with
  | [a], hv => exact ⟨a, n, s, rfl, hv.1, G, q⟩
theorem spg_lleast {n : Nat} {s : Net} (B : Back n s) (h0 : 0 < n) (hn : n ≤ 1000) : SpG K (spLLeastNet K) H [.d (encNet s)] (.d (encNet (leastNet s n))) := fun vs H1 e hv Q E q => by
  match vs, hv with
  | [a], hv => exact ⟨a, n, s, rfl, hv.1, B, h0, hn, q⟩
theorem spg_same {d : PyData} (hs : Sm d 100000) (hd : (∃ ds, d = .list ds) ∨ ∃ ds, d = .tuple ds) : SpG K (spSame K) H [.d d, .d d] (.d (.bool true)) := fun vs H1 e hv Q E q => by
  match vs, hv with
  | [a, b], hv => exact ⟨a, b, d, rfl, .dp hv.1, .dp hv.2.1, dr_ref (.dp hv.1) hd, dr_ref (.dp hv.2.1) hd, hs, q⟩
theorem sm_list {ds : List PyData} {c k : Nat} (h : ∀ d ∈ ds, d.showable = true ∧ d.depth ≤ 28 ∧ szD d ≤ c) (hk : 2 + (c + 2) * ds.length ≤ k) : Sm (.list ds) k := by
  refine ⟨?_, Nat.le_trans (depth_lst (k := 28) fun d hd => (h d hd).2.1) (by decide), ?_⟩
  · rw [PyData.showable]
    exact showAll fun d hd => (h d hd).1
  · rw [szD]
    have := szAll_le fun d hd => (h d hd).2.2
    omega
theorem sm_tup {ds : List PyData} {c k : Nat} (h : ∀ d ∈ ds, d.showable = true ∧ d.depth ≤ 28 ∧ szD d ≤ c) (hk : 3 + (c + 2) * ds.length ≤ k) : Sm (.tuple ds) k := by
  refine ⟨?_, Nat.le_trans (depth_tup (k := 28) fun d hd => (h d hd).2.1) (by decide), ?_⟩
  · rw [PyData.showable]
    exact showAll fun d hd => (h d hd).1
  · rw [szD]
    have := szAll_le fun d hd => (h d hd).2.2
    omega
theorem shaped_rows (rows : List (List Nat)) : SeqAt.shaped (.list (rows.map encR)) = true := by
  refine shaped_of ?_ (Nat.le_trans (depth_lst (k := 2) fun d hd => by
    obtain ⟨r, _, rfl⟩ := List.mem_map.mp hd
    exact depth_R r) (by decide))
  rw [PyData.canLay0]
  exact canAll fun d hd => by
    obtain ⟨r, _, rfl⟩ := List.mem_map.mp hd
    exact can_R r
theorem eqv_rows (rows : List (List Nat)) : PyData.eqv (.list (rows.map encR)) (.list []) = decide (rows = []) := by
  cases rows with
  | nil => simp [PyData.eqv, PyData.eqvAll]
  | cons r l => simp [PyData.eqv, PyData.eqvAll]
theorem rg_eqRows {rows : List (List Nat)} : RG K (rEqD K) H (.d (.list (rows.map encR))) (.d (.list [])) (.d (.bool (decide (rows = [])))) := fun x y H1 e hx hy Q q => ⟨_, _, hx, hy, shaped_rows rows, by decide +kernel, by rw [eqv_rows]; exact q _ H1 (Ex.refl H1) (.bl _)⟩
theorem rg_neRows {rows : List (List Nat)} : RG K (rNeD K) H (.d (.list (rows.map encR))) (.d (.list [])) (.d (.bool (!decide (rows = [])))) := fun x y H1 e hx hy Q q => ⟨_, _, hx, hy, shaped_rows rows, by decide +kernel, by rw [eqv_rows]; exact q _ H1 (Ex.refl H1) (.bl _)⟩
theorem shaped_Net (s : Net) : SeqAt.shaped (encNet s) = true := shaped_of (can_Net s) (Nat.le_trans (depth_Net s) (by decide))
theorem rg_eqNet {a b : Net} : RG K (rEqD K) H (.d (encNet a)) (.d (encNet b)) (.d (.bool (decide (a = b)))) := fun x y H1 e hx hy Q q => ⟨_, _, hx, hy, shaped_Net a, shaped_Net b, by
  have : PyData.eqv (encNet a) (encNet b) = decide (a = b) := by
    by_cases h : a = b
    · rw [decide_eq_true h]
      exact eqv_Net.mpr h
    · rw [decide_eq_false h]
      exact Bool.eq_false_iff.mpr fun z => h (eqv_Net.mp z)
  rw [this]
  exact q _ H1 (Ex.refl H1) (.bl _)⟩
theorem rg_eqOnes {n : Nat} {f : Nat → Bool} (h : ∀ i < n, f i = false) : RG K (rEqD K) H (.d (.list (givenD n f fun _ => .int 1))) (.d (.list [])) (.d (.bool true)) := fun x y H1 e hx hy Q q => ⟨_, _, hx, hy, shaped_ones, by decide +kernel, by rw [eqv_nil, decide_eq_true h]; exact q _ H1 (Ex.refl H1) (.bl _)⟩
theorem rg_notNone {o : Option (List Nat)} : RG K (fun x y H Q => y = .non ∧ Q (.bl (!decide (x = .non))) H) H (.d (optR o)) (.d .none) (.d (.bool o.isSome)) := fun x y H1 e hx hy Q q => by
  cases Dp.non_eq hy
  refine ⟨rfl, ?_⟩
  cases o with
  | none =>
    cases Dp.non_eq hx
    exact q _ H1 (Ex.refl H1) (.bl _)
  | some l =>
    obtain ⟨a, rfl, _⟩ := dp_ofR hx
    exact q _ H1 (Ex.refl H1) (.bl _)
end
end Nk
/-! ## G1: _law_right_two -/
namespace Nk
open PySem PySem.Spec PyProof.Rows L2 Evl

def spTwo (K : PySem.W.Frag) : Sp := fun vs H Q _ => ∃ (m c g : Addr) (b n k : Nat) (s t : Net) (v u : V) (H0 : Hp), vs = [.ref m, v, u] ∧ Wd m c g b H0 H ∧ b + 40 ≤ 1000000 ∧ Dp K H0 v (encNet s) ∧ Dp K H0 u (encNet t) ∧ Good n s ∧ Good k t ∧ n ≤ 32 ∧ k ≤ 32 ∧
  (∀ i ≤ (partsOf s n).length, bnd k i ≤ 40000) ∧ ∀ H1 H2, Ex H0 H1 → Wd m c g (b + 40) H1 H2 → Q (.bl true) H2
def tupD1 (l : List Nat) (p : Nat) (d : PyData) : PyData := .tuple ((l.map encN).take p ++ [d] ++ (l.map encN).drop (p + 1))
theorem nat_ok {x n : Nat} (h : x < n) (hn : n ≤ 1000) : (encN x).showable = true ∧ (encN x).depth ≤ 28 ∧ szD (encN x) ≤ 30 := ⟨sh_N (by omega), Nat.le_trans (depth_N x) (by decide), Nat.le_trans (sz_N (by omega)) (by decide)⟩
theorem nats_ok {l : List Nat} {n : Nat} (h : ∀ x ∈ l, x < n) (hn : n ≤ 1000) : ∀ d ∈ l.map encN, d.showable = true ∧ d.depth ≤ 28 ∧ szD d ≤ 30 := fun d hd => by
  obtain ⟨x, hx, rfl⟩ := List.mem_map.mp hd
  exact nat_ok (h x hx) hn
/-- what may stand in a bent tuple -/
def Tiny (d : PyData) : Prop := d.showable = true ∧ d.depth ≤ 28 ∧ szD d ≤ 30
section
variable {P : Program} {w : World} {K : PySem.W.Frag} {mg : Str → Option Value} {base : Heap} {bn bf bl nj : Addr}
theorem sc_law_right_two : FnScope ["_law_m", "_law_net_here", "_law_other", "_law_rows", "_law_due", "_law_value", "_law_place_here", "_law_spot", "_law_bent", "_law_thing", "_law_some", "_law_one"] ["_law_m", "_law_net_here", "_law_other"] (defScope (top 65)) := ⟨rfl, rfl, rfl, by decide +kernel, rfl, by decide +kernel, by decide +kernel⟩
theorem kn_law_right_two (T : Txt K mg) (G_law_all_likenesses : Kn P w K mg base CX0 3 "_law_all_likenesses" ["_law_net_here", "_law_other"] (spAll K)) (G_law_like : KnG P w K mg base 1 "_law_like" ["_law_got", "_law_due"] (spSame K))
    (G_likeness : Kn P w K mg base CX0 6 "likeness" ["net", "other_net"] (spLike2 K)) (G_are_alike : Kn P w K mg base CX0 7 "are_alike" ["net", "other_net"] (spAlike K)) (G_least_net : Kn P w K mg base CX0 6 "least_net" ["net"] (spLeastNet K))
    (G_law_least : Kn P w K mg base CX0 3 "_law_least" ["_law_net_here"] (spLLeastNet K)) (G_law_of : Kn P w K mg base CX0 3 "_law_of" ["_law_m", "_law_some"] (spOf K)) (G_law_order : Kn P w K mg base CX0 3 "_law_order" ["_law_m", "_law_many"] spOrder)
    (G_law_draw : Kn P w K mg base CX0 2 "_law_draw" ["_law_m", "_law_limit"] spDraw) (G_law_right_value : KnG P w K mg base 8 "_law_right_value" ["_law_net_here", "_law_other", "_law_value"] (spRV K)) :
    KnG P w K mg base 9 "_law_right_two" ["_law_m", "_law_net_here", "_law_other"] (spTwo K) := by
  obtain ⟨f, fd, F, hm⟩ := (T.df 54 (p := (65, "_law_right_two")) rfl)
  refine kng_ok F hm sc_law_right_two (fun _ _ _ _ _ _ us hl => match us, hl with | [_, _, _], _ => rfl) (fun vs H Q E h => ?_) (fun cdv A outer s H vs Q E hr hG h => ?_)
  · obtain ⟨m, c, g, b, n, k, s, t, v, u, H0, rfl, _⟩ := h
    rfl
  · obtain ⟨m, c, g, b, n, k, s, t, v, u, H0, rfl, W, hb, hv0, hu0, GS, GT, hn, hk, hbd, q⟩ := h
    have hv : Dp K H v (encNet s) := hv0.mono W.ex
    have hu : Dp K H u (encNet t) := hu0.mono W.ex
    have n4 := GS.four
    have k4 := GT.four
    refine ⟨_, (pss_cons (ps_set (i := 3) sc_law_right_two.nd rfl (Or.inl rfl) (pe_kn G_law_all_likenesses (hr.mono (by decide)) (by rfl) pass0 (pa_cons (pv 1) (pa_cons (pv 2) pa_nil))))
  (pss_cons (ps_set (i := 4) sc_law_right_two.nd rfl (Or.inl rfl) (pe_ifExp (pt_cmpR (opK_eqD (K := K) (by rfl) hr.units) (pv 3) (pe_lst pa_nil) (nomark _)) pe_non (pe_ix (ixK_list (K := K) (by rfl)) (pv 3) pe_int (fun _ _ => rfl))))
  (pss_cons (ps_if (pt_not (pt_val (pe_kg G_law_like (hr.mono (by decide)) hG (by rfl) (pa_cons (pe_lst (pa_cons (pe_kn G_likeness (hr.mono (by decide)) (by rfl) pass0 (pa_cons (pv 1) (pa_cons (pv 2) pa_nil))) (pa_cons (pe_kn G_are_alike (hr.mono (by decide)) (by rfl) pass0 (pa_cons (pv 1) (pa_cons (pv 2) pa_nil))) pa_nil))) (pa_cons (pe_lst (pa_cons (pv 4) (pa_cons (pe_cmpR op_notN (pv 4) pe_non (nomark _)) pa_nil))) pa_nil)))))
  (pss_one (ps_ret pe_bl))
  pss_nil)
  (pss_cons (ps_if (pt_not (pt_val (pe_kg G_law_like (hr.mono (by decide)) hG (by rfl) (pa_cons (pe_lst (pa_cons (pe_kn G_least_net (hr.mono (by decide)) (by rfl) pass0 (pa_cons (pv 1) pa_nil)) (pa_cons (pe_kn G_least_net (hr.mono (by decide)) (by rfl) pass0 (pa_cons (pv 2) pa_nil)) pa_nil))) (pa_cons (pe_lst (pa_cons (pe_kn G_law_least (hr.mono (by decide)) (by rfl) pass0 (pa_cons (pv 1) pa_nil)) (pa_cons (pe_kn G_law_least (hr.mono (by decide)) (by rfl) pass0 (pa_cons (pv 2) pa_nil)) pa_nil))) pa_nil)))))
  (pss_one (ps_ret pe_bl))
  pss_nil)
  (pss_cons (ps_if (pt_cmpR op_ne (pe_cmpR (opK_eqD (K := K) (by rfl) hr.units) (pe_kn G_law_least (hr.mono (by decide)) (by rfl) pass0 (pa_cons (pv 1) pa_nil)) (pe_kn G_law_least (hr.mono (by decide)) (by rfl) pass0 (pa_cons (pv 2) pa_nil)) (nomark _)) (pe_cmpR op_notN (pv 4) pe_non (nomark _)) (nomark _))
  (pss_one (ps_ret pe_bl))
  pss_nil)
  (pss_cons (ps_set (i := 5) sc_law_right_two.nd rfl (Or.inl rfl) (pe_ifExp (pt_cmpR (opK_neD (K := K) (by rfl) hr.units) (pv 3) (pe_lst pa_nil) (nomark _)) (pe_kn G_law_of (hr.mono (by decide)) (by rfl) pass0 (pa_cons (pv 0) (pa_cons (pv 3) pa_nil))) (pe_callTy (cK_tuple (K := K) (by rfl)) (by rfl) T.tuple bt_tuple (pa_cons (pe_kn G_law_order (hr.mono (by decide)) (by rfl) pass0 (pa_cons (pv 0) (pa_cons (pe_callB (cK_len (K := K) (by rfl)) (by rfl) T.len bt_len (pa_cons (pe_ix (ixK_tup (K := K) (by rfl)) (pv 1) pe_int (fun _ _ => rfl)) pa_nil)) pa_nil))) pa_nil))))
  (pss_cons (ps_par (i := 6) (j := 7) (by rfl) sc_law_right_two.nd rfl rfl (by decide) rfl rfl (pa_cons (pe_kn G_law_draw (hr.mono (by decide)) (by rfl) pass0 (pa_cons (pv 0) (pa_cons (pe_callB (cK_len (K := K) (by rfl)) (by rfl) T.len bt_len (pa_cons (pv 5) pa_nil)) pa_nil))) (pa_cons (pe_kn G_law_draw (hr.mono (by decide)) (by rfl) pass0 (pa_cons (pv 0) (pa_cons (pe_callB (cK_len (K := K) (by rfl)) (by rfl) T.len bt_len (pa_cons (pv 5) pa_nil)) pa_nil))) pa_nil)) (by rfl))
  (pss_cons (ps_set (i := 8) sc_law_right_two.nd rfl (Or.inl rfl) (pe_callTy (cK_list (K := K) (by rfl)) (by rfl) T.list bt_list (pa_cons (pv 5) pa_nil)))
  (pss_cons (ps_asg (pe_tup (pa_cons (pe_ix (ixK_list (K := K) (by rfl)) (pv 8) (pv 7) (fun _ _ => rfl)) (pa_cons (pe_ix (ixK_list (K := K) (by rfl)) (pv 8) (pv 6) (fun _ _ => rfl)) pa_nil))) (pg_tup rfl (pgs_cons (pg_sub (pv 8) (pv 6) set_list) (pgs_cons (pg_sub (pv 8) (pv 7) set_list) pgs_nil))))
  (pss_cons (ps_set (i := 9) sc_law_right_two.nd rfl (Or.inl rfl) (pe_kn G_law_of (hr.mono (by decide)) (by rfl) pass0 (pa_cons (pv 0) (pa_cons (pe_lst (pa_cons pe_bl (pa_cons pe_non (pa_cons (pe_callB (cK_len (K := K) (by rfl)) (by rfl) T.len bt_len (pa_cons (pv 5) pa_nil)) (pa_cons (pe_un un_neg pe_int) (pa_cons (pe_ix (ixK_tup (K := K) (by rfl)) (pv 5) (pv 7) (fun _ _ => rfl)) (pa_cons pe_str (pa_cons (pe_lst pa_nil) (pa_cons pe_dnewK pa_nil))))))))) pa_nil))))
  (pss_cons (ps_set (i := 10) sc_law_right_two.nd rfl (Or.inl rfl) (pe_lst (pa_cons (pv 5) (pa_cons (pe_callTy (cK_tuple (K := K) (by rfl)) (by rfl) T.tuple bt_tuple (pa_cons (pv 8) pa_nil)) (pa_cons (pe_op (opK_cat (K := K) (by rfl)) (pe_op (opK_cat (K := K) (by rfl)) (pe_slice (slK_tup (K := K) (by rfl)) (pv 5) po_none (po_some (pv 6))) (pe_tup (pa_cons (pv 9) pa_nil))) (pe_slice (slK_tup (K := K) (by rfl)) (pv 5) (po_some (pe_op op_add (pv 6) pe_int)) po_none)) (pa_cons (pe_callTy (cK_list (K := K) (by rfl)) (by rfl) T.list bt_list (pa_cons (pv 5) pa_nil)) (pa_cons (pe_slice (slK_tup (K := K) (by rfl)) (pv 5) (po_some pe_int) po_none) (pa_cons (pe_op (opK_cat (K := K) (by rfl)) (pv 5) (pe_tup (pa_cons pe_int pa_nil))) (pa_cons pe_non pa_nil)))))))))
  (pss_one (ps_ret (pe_cmpR (opK_eqD (K := K) (by rfl) hr.units) (pe_lc (own := [("_law_one", 11)]) (g := (gName 11)) (by rfl) sc_law_right_two.nd (piK_list (K := K) (by rfl) (pe_op op_cat (pv 10) (pe_lst (pa_cons pe_dnewK pa_nil)))) (blkOk_by (by kernel_rfl)) (fun _ _ _ _ _ => (pg_name (i := 11) sc_law_right_two.nd rfl (by first | exact Or.inl rfl | exact Or.inr rfl))) (fun _ _ _ _ _ => (pts_one (pt_not (pt_val (pe_kg G_law_right_value (hr.mono (by decide)) hG (by rfl) (pa_cons (pv 1) (pa_cons (pv 2) (pa_cons (pv 11) pa_nil)))))))) (fun _ _ _ _ _ => pe_int)) (pe_lst pa_nil) (nomark _))))))))))))))), ?_⟩
    -- rows, due
    refine asg (g_call (K := K) (c := .d (.list ((allRows s t n k).map encR))) (gs_cons (g_dv rfl hv) (gs_cons (g_dv rfl hu) gs_nil)) (spg_all GS GT.toForm (by omega) (by omega) hbd)) fun r H1 e1 hr1 => ?_
    have hr1 : Dp K H1 r (.list ((allRows s t n k).map encR)) := hr1
    obtain ⟨o, ho⟩ : ∃ o, o = (allRows s t n k).head? := ⟨_, rfl⟩
    have hfo : foundL s t n k = o := by rw [ho]; exact found_head GS GT
    refine asg (K := K) (a := .d (optR o)) (g_ifE (et_of (K := K) (g_op (g_dv rfl hr1) g_nil rg_eqRows)) (fun hz => ?_) (fun hz => ?_)) fun du H2 e2 hdu => ?_
    · have hz := of_decide_eq_true hz
      rw [ho, hz]
      exact g_non
    · have hz := of_decide_eq_false hz
      obtain ⟨x, l, hx⟩ : ∃ x l, allRows s t n k = x :: l := by
        cases h : allRows s t n k with
        | nil => exact absurd h hz
        | cons x l => exact ⟨x, l, rfl⟩
      rw [hx] at hr1
      rw [ho, hx]
      exact g_ixL (i := 0) (g_dv rfl hr1) g_int rfl
    have hdu : Dp K H2 du (optR o) := hdu
    have e12 := e1.trans e2
    -- likeness, are_alike
    have hoS : ∀ d ∈ [optR o, PyData.bool o.isSome], d.showable = true ∧ d.depth ≤ 28 ∧ szD d ≤ 200 := fun d hd => by
      rcases List.mem_cons.mp hd with rfl | hd
      · cases ho2 : o with
        | none => exact ⟨by decide +kernel, by decide +kernel, by decide +kernel⟩
        | some l =>
          have hl : l ∈ allRows s t n k := List.mem_of_head? (by rw [← ho, ho2])
          obtain ⟨h1, h2⟩ := rows_ok GS GT hl
          have := sm_R h2 (by omega)
          exact ⟨this.1, Nat.le_trans (depth_R l) (by decide), by rw [h1] at this; show szD (encR l) ≤ 200; omega⟩
      · rw [List.mem_singleton.mp hd]
        exact ⟨by simp [PyData.showable], by simp [PyData.depth], by rw [szD]; omega⟩
    refine q_when (b := false) (et_is (et_not (a := true) (et_of (g_call (K := K) (c := .d (.bool true)) (gs_cons (a := .d (.list [optR o, .bool o.isSome])) (g_lst (ds := [optR o, .bool o.isSome]) (gs_cons (by rw [← hfo]; exact g_call (gs_cons (g_dv rfl (hv.mono e12)) (gs_cons (g_dv rfl (hu.mono e12)) gs_nil)) (spg_like2 GS GT)) (gs_cons (by rw [← hfo]; exact g_call (gs_cons (g_dv rfl (hv.mono e12)) (gs_cons (g_dv rfl (hu.mono e12)) gs_nil)) (spg_alike GS GT)) gs_nil)) (by show 2 ≤ 100000; omega))
      (gs_cons (a := .d (.list [optR o, .bool o.isSome])) (g_lst (ds := [optR o, .bool o.isSome]) (gs_cons (g_dv rfl hdu) (gs_cons (g_op (g_dv rfl hdu) g_non rg_notNone) gs_nil)) (by show 2 ≤ 100000; omega)) gs_nil)) (spg_same (sm_list hoS (by show 2 + 202 * 2 ≤ 100000; omega)) (.inl ⟨_, rfl⟩))))) rfl) (fun z => by cases z) (fun _ H3 e3 => ?_)
    have e13 := e12.trans e3
    -- the least forms
    have hLs : ∀ {n : Nat} {s : Net}, Good n s → n ≤ 32 → (encNet (leastNet s n)).showable = true ∧ (encNet (leastNet s n)).depth ≤ 28 ∧ szD (encNet (leastNet s n)) ≤ 600 := fun {n s} G hn => by
      obtain ⟨row, hp, e⟩ := least_renum G
      obtain ⟨p1, p2, p3, p4⟩ := perm_row G.toForm hp
      have FR : Form row.length (renum s row) := renum_form G.toForm p3
      have := sm_Net FR (by omega)
      rw [e]
      exact ⟨this.1, Nat.le_trans (depth_Net _) (by decide), by omega⟩
    have lS := hLs GS hn
    have lT := hLs GT hk
    refine q_when (b := false) (et_is (et_not (a := true) (et_of (g_call (K := K) (c := .d (.bool true)) (gs_cons (a := .d (.list [encNet (leastNet s n), encNet (leastNet t k)])) (g_lst (ds := [encNet (leastNet s n), encNet (leastNet t k)]) (gs_cons (g_call (gs_cons (g_dv rfl (hv.mono e13)) gs_nil) (spg_least GS)) (gs_cons (g_call (gs_cons (g_dv rfl (hu.mono e13)) gs_nil) (spg_least GT)) gs_nil)) (by show 2 ≤ 100000; omega))
      (gs_cons (a := .d (.list [encNet (leastNet s n), encNet (leastNet t k)])) (g_lst (ds := [encNet (leastNet s n), encNet (leastNet t k)]) (gs_cons (g_call (gs_cons (g_dv rfl (hv.mono e13)) gs_nil) (spg_lleast GS.toBack (by omega) (by omega))) (gs_cons (g_call (gs_cons (g_dv rfl (hu.mono e13)) gs_nil) (spg_lleast GT.toBack (by omega) (by omega))) gs_nil)) (by show 2 ≤ 100000; omega)) gs_nil)) (spg_same (sm_list (c := 600) (fun d hd => ?_) (by show 2 + 602 * 2 ≤ 100000; omega)) (.inl ⟨_, rfl⟩))))) rfl) (fun z => by cases z) (fun _ H4 e4 => ?_)
    · rcases List.mem_cons.mp hd with rfl | hd
      · exact lS
      · rw [List.mem_singleton.mp hd]
        exact lT
    have e14 := e13.trans e4
    have hiff := least_iff GS GT
    have hos : o.isSome = decide (allRows s t n k ≠ []) := by
      rw [ho]
      cases allRows s t n k with
      | nil => rfl
      | cons x l => simp
    have hdu4 : Dp K H4 du (optR o) := hdu.mono (e3.trans e4)
    refine q_when (b := false) (et_is (et_of (K := K) (g_op (g_op (g_call (gs_cons (g_dv rfl (hv.mono e14)) gs_nil) (spg_lleast GS.toBack (by omega) (by omega))) (g_call (gs_cons (g_dv rfl (hu.mono e14)) gs_nil) (spg_lleast GT.toBack (by omega) (by omega))) rg_eqNet) (g_op (g_dv rfl hdu4) g_non rg_notNone) rg_neB)) ?_) (fun z => by cases z) (fun _ H5 e5 => ?_)
    · rw [hos]
      by_cases h : leastNet s n = leastNet t k
      · rw [decide_eq_true h, decide_eq_true (hiff.mp h)]
        rfl
      · rw [decide_eq_false h, decide_eq_false (fun z => h (hiff.mpr z))]
        rfl
    have e15 := e14.trans e5
    have W5 := W.step e15
    have hr5 : Dp K H5 r (.list ((allRows s t n k).map encR)) := hr1.mono (((e2.trans e3).trans e4).trans e5)
    have hv5 := hv.mono e15
    -- the value
    refine q_asgW (fun x H' => ∃ l Hk, l.length = n ∧ (∀ y ∈ l, y < n) ∧ Ex H0 Hk ∧ Wd m c g (b + 32) Hk H' ∧ Dp K Hk x (encR l)) (fun Q q => ?_) fun x H6 hx => ?_
    · refine (et_of (K := K) (g_op (g_dv rfl hr5) g_nil rg_neRows)) H5 (Ex.refl H5) _ fun H6 e6 => ?_
      have W6 := W5.step e6
      have hr6 := hr5.mono e6
      by_cases hz : allRows s t n k = []
      · rw [decide_eq_true hz, if_neg (show ¬ ((!true) = true) by decide)]
        refine ⟨.ref m, rfl, ?_⟩
        refine (g_ev (g_toV (g_len0 (K := K) GS.toForm (g_dv (σ := [some (.ref m), some v, some u, some r, some du, none, none, none, none, none, none, none]) (i := 1) rfl (hv5.mono e6))))) H6 (Ex.refl H6) _ fun H7 e7 => ?_
        refine ⟨m, c, g, b, n, H0, rfl, W6.step e7, by omega, by omega, fun p row H8 H9 hp e8 hrow W9 => ?_⟩
        refine ⟨p, nl row, rfl, .inl ⟨sq_of (W9.ex _ _ hrow), fun l hl => ?_⟩⟩
        obtain ⟨p1, p2, p3, p4⟩ := perm_row GS.toForm hp
        refine q _ _ ⟨row, upd H8 l (.tup (nl row)), p4, p2, e8.trans (Ex.new (fresh_back W9.ex hl)), ?_, dp_R (st_of upd_same)⟩
        exact (W9.new hl).le (by omega)
      · rw [decide_eq_false hz, if_pos (show ((!false) = true) by decide)]
        obtain ⟨rl, rfl, hrl⟩ : ∃ a, r = .ref a ∧ ∃ xs, SqL K H6 a xs ∧ DpAll K H6 xs ((allRows s t n k).map encR) := by
          cases hr6 with
          | @lst a xs _ h1 h2 => exact ⟨a, rfl, xs, h1, h2⟩
        obtain ⟨xs, hxs, hda⟩ := hrl
        have hlen := hda.length
        rw [List.length_map] at hlen
        have hne : 0 < (allRows s t n k).length := List.length_pos_iff.mpr hz
        have hrows : (allRows s t n k).length ≤ 40000 := by
          have h1 := hbd _ (Nat.le_refl _)
          have h2 := allTo_len (t := t) GS GT.toForm (Nat.le_refl _)
          have hnk := (rows_form GS GT (List.getElem_mem hne)).1
          subst hnk
          rw [show allRows s t n n = ((allTo s t n n (partsOf s n).length).map (rowOf n)).mergeSort (PySem.W.dataLe false encR) from if_neg (fun z => z rfl), List.length_mergeSort, List.length_map]
          omega
        have hcut : SqL K (cutH m g H6) rl xs := by
          rcases hxs with (h | ⟨o, h⟩) | h
          · have n1 : rl ≠ m := fun z => by
              obtain ⟨_, _, hh⟩ := W6.hm
              rw [z, hh] at h
              cases h
            have n2 : rl ≠ g := fun z => by
              obtain ⟨gs, hh⟩ := W6.hg
              rw [z, hh] at h
              have e := HO.lst.inj (Option.some.inj h)
              obtain ⟨d, hd⟩ : ∃ d, (((allRows s t n k).map encR))[0]? = some d := ⟨_, List.getElem?_eq_getElem (by rw [List.length_map]; exact hne)⟩
              obtain ⟨y, hy, hyd⟩ := hda.get hd
              rw [← e, List.getElem?_map] at hy
              obtain ⟨i, _, rfl⟩ := Option.map_eq_some_iff.mp hy
              rw [List.getElem?_map] at hd
              obtain ⟨rr, _, rfl⟩ := Option.map_eq_some_iff.mp hd
              unfold encR at hyd
              cases hyd
            exact .inl (.inl (by rw [cut_at n1 n2]; exact h))
          · have n1 : rl ≠ m := fun z => by
              obtain ⟨_, _, hh⟩ := W6.hm
              rw [z, hh] at h
              cases h
            have n2 : rl ≠ g := fun z => by
              obtain ⟨gs, hh⟩ := W6.hg
              rw [z, hh] at h
              cases h
            exact .inl (.inr ⟨o, by rw [cut_at n1 n2]; exact h⟩)
          · exact .inr h
        refine ⟨.ref m, rfl, .ref rl, rfl, m, c, g, rl, b, cutH m g H6, xs, rfl, W6.full, by omega, hcut, by omega, by omega, fun i y H7 hy W7 => ?_⟩
        obtain ⟨d, hd, hyd⟩ := hda.getv hy
        rw [List.getElem?_map] at hd
        obtain ⟨l, hl, rfl⟩ := Option.map_eq_some_iff.mp hd
        obtain ⟨h1, h2⟩ := rows_ok GS GT (List.mem_of_getElem? hl)
        exact q _ _ ⟨l, cutH m g H6, h1, h2, W6.exc, W7.le (by omega), W6.cutT hyd (flat_R l)⟩
    obtain ⟨l, Hk, hl, hlt, eHk, W6, hx⟩ := hx
    have hx6 := hx.mono W6.ex
    -- place, spot
    have hlen : ∀ {H' : Hp} {y6 y7 y8 y9 y10 y11 : Option V}, Ex H6 H' → Ev (tCB (fun xs H Q => ∃ p ys, xs = [.ref p] ∧ (SqL K H p ys ∨ SqT K H p ys) ∧ Q (.int ys.length) H) (tCons (tVar 5) tNil)) [some (.ref m), some v, some u, some r, some du, some x, y6, y7, y8, y9, y10, y11] H' (nv n) := fun {H' y6 y7 y8 y9 y10 y11} e => g_ev (g_toV (g_is (g_lenT (ds := l.map encN) (g_dv rfl (hx6.mono e))) (by rw [List.length_map, hl])))
    refine ⟨.ref m, rfl, ?_⟩
    refine (hlen (Ex.refl H6)) H6 (Ex.refl H6) _ fun H7 e7 => ?_
    refine ⟨m, c, g, b + 32, n, Hk, rfl, by omega, by omega, by omega, W6.step e7, fun p H8 hp W8 => ?_⟩
    have hx8 := hx.mono W8.ex
    refine ⟨.ref m, rfl, ?_⟩
    refine (g_ev (g_toV (g_is (g_lenT (K := K) (ds := l.map encN) (g_dv (σ := [some (.ref m), some v, some u, some r, some du, some x, none, none, none, none, none, none]) (i := 5) rfl hx8)) (show _ = Nk.A.d (.int (n : Int)) by rw [List.length_map, hl])))) H8 (Ex.refl H8) _ fun H9 e9 => ?_
    refine ⟨m, c, g, b + 32 + 1, n, Hk, rfl, by omega, by omega, by omega, W8.step e9, fun j H10 hj W10 => ?_⟩
    refine ⟨nv p, nv j, rfl, ?_⟩
    have hx10 := hx.mono W10.ex
    have hat : ∀ {i : Nat}, i < n → l[i]? = some (l.getD i 0) := fun {i} hi => by rw [List.getD_eq_getElem?_getD, List.getElem?_eq_getElem (by omega)]; rfl
    -- bent
    refine q_asgL (el_listG (l := l) (g_dv rfl hx10)) fun bt H11 bt0 e11 hbt => ?_
    obtain ⟨btm, btg⟩ := W10.fresh bt0
    have bk0 : Hk bt = none := fresh_back W10.ex bt0
    have W11 := W10.step e11
    refine q_set2 (K := K) (i := p) (j := j) (v1 := nv (l.getD j 0)) (v2 := nv (l.getD p 0)) hbt (ev_ixL (K := K) (ev_var rfl) (sq_of hbt) (ev_var rfl) (atI_n (nl_get (hat hj)))) (ev_ixL (K := K) (ev_var rfl) (sq_of hbt) (ev_var rfl) (atI_n (nl_get (hat hp)))) (fun G => ev_var rfl) (ev_var rfl) (fun G _ => ev_var rfl) (by rw [nl_len]; omega) (by rw [nl_len]; omega) fun H12 e12' => ?_
    rw [nl_set, nl_set]
    obtain ⟨lb, hlb⟩ : ∃ lb, lb = (l.set p (l.getD j 0)).set j (l.getD p 0) := ⟨_, rfl⟩
    rw [← hlb]
    have hbtlt : ∀ y ∈ lb, y < n := fun y hy => by
      rw [hlb] at hy
      rcases List.mem_or_eq_of_mem_set hy with hy | rfl
      · rcases List.mem_or_eq_of_mem_set hy with hy | rfl
        · exact hlt y hy
        · exact hlt _ (List.mem_of_getElem? (hat hj))
      · exact hlt _ (List.mem_of_getElem? (hat hp))
    have hlbl : lb.length = n := by rw [hlb, List.length_set, List.length_set, hl]
    have W12 : Wd m c g (b + 34) Hk (upd H12 bt (.lst (nl lb))) := (W11.step e12').mut bk0 btm btg
    have hb12 : (upd H12 bt (.lst (nl lb))) bt = some (.lst (nl lb)) := upd_same
    generalize upd H12 bt (.lst (nl lb)) = H13 at W12 hb12
    have hx13 := hx.mono W12.ex
    have neg1 : ∀ {σ : L2.St} {H2 : Hp}, EvG K (tUn (rU fun i => .int (-i)) (tC (.int 1))) σ H2 (.d (.int (-1))) := g_un g_int ru_neg
    -- a thing
    refine q_asgW (fun th H' => ∃ d Hm, Tiny d ∧ Ex (cutH m g H13) Hm ∧ Wd m c g (b + 35) Hm H' ∧ Dr K Hm th d) (fun Q q => of_things (ds := [.bool true, .none, encN n, .int (-1), encN (l.getD j 0), .str "0", .list [], .dict []]) W12 (by omega)
      (cs_cons (c_flat W12 g_bl rfl) (cs_cons (c_flat W12 g_non rfl) (cs_cons (c_flat W12 (g_is (g_lenT (ds := l.map encN) (g_dv rfl hx13)) (by rw [List.length_map, hl]; rfl)) rfl) (cs_cons (c_flat W12 neg1 rfl) (cs_cons (c_flat W12 (g_ixT (i := j) (g_dv rfl hx13) (g_vn rfl) (encR_get (hat hj))) rfl) (cs_cons (c_flat W12 g_str rfl) (cs_cons (c_nil W12) (cs_cons (c_dnew W12) cs_nil)))))))) rfl (by show 0 < 8; omega) (by show 8 ≤ 1000; omega) Q fun th H' Hm ⟨d, hd, hth⟩ eM WM => q th H' ⟨d, Hm, ?_, eM, WM, hth⟩) fun th H14 hth => ?_
    · have hlj := hlt _ (List.mem_of_getElem? (hat hj))
      simp only [List.mem_cons, List.not_mem_nil, or_false] at hd
      rcases hd with rfl | rfl | rfl | rfl | rfl | rfl | rfl | rfl
      · exact ⟨by decide +kernel, by decide +kernel, by decide +kernel⟩
      · exact ⟨by decide +kernel, by decide +kernel, by decide +kernel⟩
      · exact nat_ok (n := 100) (by omega) (by omega)
      · exact ⟨by decide +kernel, by decide +kernel, by decide +kernel⟩
      · exact nat_ok hlj (by omega)
      · exact ⟨by decide +kernel, by decide +kernel, by decide +kernel⟩
      · exact ⟨by decide +kernel, by decide +kernel, by decide +kernel⟩
      · exact ⟨by decide +kernel, by decide +kernel, by decide +kernel⟩
    obtain ⟨d, Hm, htiny, eM, W14, hth⟩ := hth
    have eKm : Ex Hk Hm := W12.exc.trans eM
    have hb14 : H14 bt = some (.lst (nl lb)) := W14.ex _ _ (eM _ _ (by rw [cut_at btm btg]; exact hb12))
    have hx14 := hx.mono (eKm.trans W14.ex)
    have hth14 := dr_mono hth W14.ex
    -- the list of what is tried
    have hbtD : Dp K H14 (.ref bt) (encL lb) := dp_L (sq_of hb14)
    obtain ⟨ds, hds⟩ : ∃ ds, ds = [encR l, encR lb, tupD1 l p d, .list (l.map encN), .tuple ((l.map encN).drop 1), .tuple (l.map encN ++ [.int 0]), .none] := ⟨_, rfl⟩
    refine q_asgLR (K := K) (ds := ds) (by
      rw [hds]
      refine rs_cons (r_g (g_dv rfl hx14)) (rs_cons (r_g (g_tupOf (g_dv rfl hbtD))) (rs_cons ?_ (rs_cons (r_g (g_listOfT (g_dv rfl hx14))) (rs_cons (r_g (g_slFrom (lo := 1) (g_dv rfl hx14) g_int)) (rs_cons (r_g ?_) (rs_cons (r_g g_non) rs_nil))))))
      · refine r_cat (r_cat (r_g (g_slTo (hi := p) (g_dv rfl hx14) (g_vn rfl))) (r_tup (rs_cons (r_var rfl hth14) rs_nil) (by show 1 ≤ 100000; omega)) ?_) (r_g (g_slFrom (lo := p + 1) (g_dv rfl hx14) (g_is (g_op (g_vn (n := p) rfl) g_int rg_add) rfl))) ?_
        · rw [List.length_take, List.length_map]
          show min p l.length + 1 ≤ 100000
          omega
        · rw [List.length_append, List.length_take, List.length_drop, List.length_map]
          show min p l.length + 1 + (l.length - (p + 1)) ≤ 100000
          omega
      · exact g_op (g_dv rfl hx14) (g_tup (ds := [.int 0]) (gs_cons g_int gs_nil) (by show 1 ≤ 100000; omega)) (rg_catA (by rw [List.length_map]; show l.length + 1 ≤ 100000; omega))) (by rw [hds]; show 7 ≤ 100000; omega) fun sl vs H15 e15' hsl hvs => ?_
    have hds8 : ∀ e ∈ ds ++ [.dict []], Sm e 90000 ∧ e.depth ≤ 29 := by
      have hnat : ∀ e ∈ l.map encN, Tiny e := nats_ok hlt (by omega)
      have hnatb : ∀ e ∈ lb.map encN, Tiny e := nats_ok hbtlt (by omega)
      have tup : ∀ {es : List PyData}, (∀ e ∈ es, Tiny e) → es.length ≤ 40 → Sm (.tuple es) 90000 ∧ (PyData.tuple es).depth ≤ 29 := fun {es} h1 h2 => ⟨sm_tup h1 (by omega), Nat.le_trans (depth_tup (k := 28) fun d hd => (h1 d hd).2.1) (by decide)⟩
      intro e he
      rw [hds] at he
      simp only [List.cons_append, List.nil_append, List.mem_cons, List.not_mem_nil, or_false] at he
      rcases he with rfl | rfl | rfl | rfl | rfl | rfl | rfl | rfl
      · exact tup hnat (by rw [List.length_map]; omega)
      · exact tup hnatb (by rw [List.length_map]; omega)
      · refine tup (fun e he => ?_) ?_
        · rcases List.mem_append.mp he with he | he
          · rcases List.mem_append.mp he with he | he
            · exact hnat e (List.mem_of_mem_take he)
            · rw [List.mem_singleton.mp he]
              exact htiny
          · exact hnat e (List.mem_of_mem_drop he)
        · rw [List.length_append, List.length_append, List.length_take, List.length_drop, List.length_map]
          show min p l.length + 1 + (l.length - (p + 1)) ≤ 40
          omega
      · exact ⟨sm_list hnat (by rw [List.length_map]; omega), Nat.le_trans (depth_lst (k := 28) fun d hd => (hnat d hd).2.1) (by decide)⟩
      · exact tup (fun e he => hnat e (List.mem_of_mem_drop he)) (by rw [List.length_drop, List.length_map]; omega)
      · refine tup (fun e he => ?_) (by rw [List.length_append, List.length_map]; show l.length + 1 ≤ 40; omega)
        rcases List.mem_append.mp he with he | he
        · exact hnat e he
        · rw [List.mem_singleton.mp he]
          exact ⟨by decide +kernel, by decide +kernel, by decide +kernel⟩
      · exact ⟨⟨by decide +kernel, by decide +kernel, by decide +kernel⟩, by decide +kernel⟩
      · exact ⟨⟨by decide +kernel, by decide +kernel, by decide +kernel⟩, by decide +kernel⟩
    have W15 := W14.step e15'
    have e0m : Ex H0 Hm := eHk.trans eKm
    have hv15 : Dp K H15 v (encNet s) := hv0.mono (e0m.trans W15.ex)
    have hu15 : Dp K H15 u (encNet t) := hu0.mono (e0m.trans W15.ex)
    have hlds : ds.length = 7 := by rw [hds]; rfl
    refine retA (K := K) (a := .d (.bool true)) (g_op (g_lcLr (ds := ds ++ [.dict []]) (fun _ => false) (fun _ => .int 1) (r_catE rfl hsl hvs (by omega)) (by rw [List.length_append, hlds]; show 8 ≤ 40000; omega) (fun x => rfl) (fun _ => rfl) (fun i y e H16 e16 he hy => ?_) (fun i y e H16 e16 he hy z => by cases z)) g_nil (rg_eqOnes fun i hi => rfl)) (fun y H16 e16 hy => ?_) rfl
    · obtain ⟨h1, h2⟩ := hds8 e (List.mem_of_getElem? he)
      refine et_is (et_not (a := true) (et_of (K := K) (g_call (c := .d (.bool true)) (gs_cons (g_vv rfl) (gs_cons (g_vv rfl) (gs_cons (g_vv rfl) gs_nil))) (fun vs H17 e17 hvs Q E q => ?_)))) rfl
      match vs, hvs with
      | [a1, a2, a3], hvs =>
        obtain ⟨q1, q2, q3, _⟩ := hvs
        have q1 : a1 = v := q1
        have q2 : a2 = u := q2
        have q3 : a3 = y := q3
        subst q1 q2 q3
        exact ⟨_, _, _, n, k, s, t, e, rfl, hv15.mono (e16.trans e17), hu15.mono (e16.trans e17), dr_mono hy e17, GS, GT, h1, h2, q⟩
    · cases Dp.bl_eq hy
      have W16 := W15.step e16
      exact q _ _ (e0m.trans W16.exc) ((W16.full).le (by omega))
end
end Nk
/-! ## G2: _law_right_reading -/
namespace Nk
open PySem PySem.Spec PyProof.Rows L2 Evl

def spRdg (K : PySem.W.Frag) : Sp := fun vs H Q _ => ∃ (m c g : Addr) (b n : Nat) (s : Net) (v : V) (H0 : Hp), vs = [.ref m, v] ∧ Wd m c g b H0 H ∧ b + 2 ≤ 1000000 ∧ Dp K H0 v (encNet s) ∧ Good n s ∧ n ≤ 100 ∧ ∀ H1 H2, Ex H0 H1 → Wd m c g (b + 2) H1 H2 → Q (.bl true) H2
def dueD (s : Net) (n f : Nat) : PyData := if (partsOf s n).length = 1 then .tuple [.str "let", encNet (rdg s n f)] else .tuple [.str "apart", encN (second s n)]
section
variable {P : Program} {w : World} {K : PySem.W.Frag} {mg : Str → Option Value} {base : Heap} {bn bf bl nj : Addr}
theorem r_same {σ : L2.St} {H : Hp} {ta tb : TE} {d : PyData} {E : XK} (ha : EvR K ta σ H d) (hb : EvR K tb σ H d) (hs : Sm d 100000) (hd : (∃ ds, d = .list ds) ∨ ∃ ds, d = .tuple ds) : EvG K (tCall (spSame K) [] E (tCons ta (tCons tb tNil))) σ H (.d (.bool true)) := fun H1 e Q q =>
  ha H1 e _ fun x H2 e2 hx => hb H2 (e.trans e2) _ fun y H3 e3 hy => ⟨x, y, d, rfl, dr_mono hx e3, hy, dr_ref (dr_mono hx e3) hd, dr_ref hy hd, hs, fun v H4 e4 hv => q v H4 ((e2.trans e3).trans e4) hv⟩
theorem tcall_at {σ : L2.St} {H : Hp} {ta : TE} {tr : TA} {sp : Sp} {E : XK} {Q : VK} (h : ta σ H fun x H1 => tr σ H1 fun vs H2 => sp ((x :: vs) ++ []) H2 Q E) : tCall sp [] E (tCons ta tr) σ H Q := h
theorem str_ok {x : Str} {d : PyData} (hx : szD (.str x) ≤ 30) (h : d.showable = true ∧ d.depth ≤ 27 ∧ szD d ≤ 2000) : (PyData.tuple [.str x, d]).showable = true ∧ (PyData.tuple [.str x, d]).depth ≤ 28 ∧ szD (.tuple [.str x, d]) ≤ 2100 := by
  refine ⟨?_, ?_, ?_⟩
  · rw [PyData.showable, PyData.showableAll, PyData.showableAll, PyData.showableAll, h.1, PyData.showable]
    rfl
  · exact depth_tup (k := 27) fun e he => by
      rcases List.mem_cons.mp he with rfl | he
      · simp [PyData.depth]
      · rw [List.mem_singleton.mp he]
        exact h.2.1
  · rw [szD, szAll, szAll, szAll]
    have := h.2.2
    omega
theorem sc_law_right_reading : FnScope ["_law_m", "_law_net_here", "_law_flag", "_law_rows", "_law_due", "_law_wrong", "_law_told"] ["_law_m", "_law_net_here"] (defScope (top 66)) := ⟨rfl, rfl, rfl, by decide +kernel, rfl, by decide +kernel, by decide +kernel⟩
theorem kn_law_right_reading (T : Txt K mg) (G_law_draw : Kn P w K mg base CX0 2 "_law_draw" ["_law_m", "_law_limit"] spDraw) (G_law_parts : Kn P w K mg base CX0 2 "_law_parts" ["_law_net_here"] (spLParts K)) (G_law_part : Kn P w K mg base CX0 1 "_law_part" ["_law_net_here", "_law_flag"] (spBfs K))
    (G_law_numbered : Kn P w K mg base CX0 1 "_law_numbered" ["_law_net_here", "_law_order_here"] (spNum K)) (G_law_of : Kn P w K mg base CX0 3 "_law_of" ["_law_m", "_law_some"] (spOf K)) (G_law_read : Kn P w K mg base CX0 9 "_law_read" ["_law_net_here", "_law_flag"] (spReadL K))
    (G_law_like : KnG P w K mg base 1 "_law_like" ["_law_got", "_law_due"] (spSame K)) : KnG P w K mg base 10 "_law_right_reading" ["_law_m", "_law_net_here"] (spRdg K) := by
  obtain ⟨f, fd, F, hm⟩ := (T.df 55 (p := (66, "_law_right_reading")) rfl)
  refine kng_ok F hm sc_law_right_reading (fun _ _ _ _ _ _ us hl => match us, hl with | [_, _], _ => rfl) (fun vs H Q E h => ?_) (fun cdv A outer s H vs Q E hr hG h => ?_)
  · obtain ⟨m, c, g, b, n, s, v, H0, rfl, _⟩ := h
    rfl
  · obtain ⟨m, c, g, b, n, s, v, H0, rfl, W, hb, hv0, GS, hn, q⟩ := h
    have n4 := GS.four
    have FS := GS.toForm
    have hv := hv0.mono W.ex
    refine ⟨_, (pss_cons (ps_set (i := 2) sc_law_right_reading.nd rfl (Or.inl rfl) (pe_kn G_law_draw (hr.mono (by decide)) (by rfl) pass0 (pa_cons (pv 0) (pa_cons (pe_callB (cK_len (K := K) (by rfl)) (by rfl) T.len bt_len (pa_cons (pe_ix (ixK_tup (K := K) (by rfl)) (pv 1) pe_int (fun _ _ => rfl)) pa_nil)) pa_nil))))
  (pss_cons (ps_set (i := 3) sc_law_right_reading.nd rfl (Or.inl rfl) (pe_kn G_law_parts (hr.mono (by decide)) (by rfl) pass0 (pa_cons (pv 1) pa_nil)))
  (pss_cons (ps_set (i := 4) sc_law_right_reading.nd rfl (Or.inl rfl) (pe_ifExp (pt_cmpR op_eq (pe_callB (cK_len (K := K) (by rfl)) (by rfl) T.len bt_len (pa_cons (pv 3) pa_nil)) pe_int (nomark _)) (pe_tup (pa_cons pe_str (pa_cons (pe_kn G_law_numbered (hr.mono (by decide)) (by rfl) pass0 (pa_cons (pv 1) (pa_cons (pe_kn G_law_part (hr.mono (by decide)) (by rfl) pass0 (pa_cons (pv 1) (pa_cons (pv 2) pa_nil))) pa_nil))) pa_nil))) (pe_tup (pa_cons pe_str (pa_cons (pe_ix (ixK_list (K := K) (by rfl)) (pe_ix (ixK_list (K := K) (by rfl)) (pv 3) pe_int (fun _ _ => rfl)) pe_int (fun _ _ => rfl)) pa_nil)))))
  (pss_cons (ps_set (i := 5) sc_law_right_reading.nd rfl (Or.inl rfl) (pe_kn G_law_of (hr.mono (by decide)) (by rfl) pass0 (pa_cons (pv 0) (pa_cons (pe_lst (pa_cons (pe_un un_neg pe_int) (pa_cons (pe_callB (cK_len (K := K) (by rfl)) (by rfl) T.len bt_len (pa_cons (pe_ix (ixK_tup (K := K) (by rfl)) (pv 1) pe_int (fun _ _ => rfl)) pa_nil)) (pa_cons pe_bl (pa_cons pe_non (pa_cons pe_str (pa_cons (pe_lst pa_nil) (pa_cons pe_dnewK pa_nil)))))))) pa_nil))))
  (pss_cons (ps_set (i := 6) sc_law_right_reading.nd rfl (Or.inl rfl) (pe_lst (pa_cons (pe_kn G_law_read (hr.mono (by decide)) (by rfl) pass0 (pa_cons (pv 1) (pa_cons (pv 2) pa_nil))) (pa_cons (pe_kn G_law_read (hr.mono (by decide)) (by rfl) pass0 (pa_cons (pv 1) (pa_cons (pv 5) pa_nil))) (pa_cons (pe_kn G_law_read (hr.mono (by decide)) (by rfl) pass0 (pa_cons (pe_tup (pa_cons (pe_ix (ixK_tup (K := K) (by rfl)) (pv 1) pe_int (fun _ _ => rfl)) (pa_cons (pe_ix (ixK_tup (K := K) (by rfl)) (pv 1) pe_int (fun _ _ => rfl)) (pa_cons (pe_ix (ixK_tup (K := K) (by rfl)) (pv 1) pe_int (fun _ _ => rfl)) pa_nil)))) (pa_cons (pv 5) pa_nil))) pa_nil)))))
  (pss_one (ps_ret (pe_kg G_law_like (hr.mono (by decide)) hG (by rfl) (pa_cons (pv 6) (pa_cons (pe_lst (pa_cons (pv 4) (pa_cons (pe_tup (pa_cons pe_str (pa_cons (pv 5) pa_nil))) (pa_cons (pe_tup (pa_cons pe_str (pa_cons pe_str (pa_cons pe_int pa_nil)))) pa_nil)))) pa_nil)))))))))), ?_⟩
    refine ⟨.ref m, rfl, ?_⟩
    refine (g_ev (g_toV (g_len0 (K := K) FS (g_dv (σ := [some (.ref m), some v, none, none, none, none, none]) (i := 1) rfl hv)))) H (Ex.refl H) _ fun H1 e1 => ?_
    refine ⟨m, c, g, b, n, H0, rfl, by omega, by omega, by omega, W.step e1, fun x H2 hx W2 => ?_⟩
    have hv2 := hv0.mono W2.ex
    -- the parts
    have B := GS.toBack
    show tSeq (tAsg (tCall (spLParts K) [] E0 (tCons (tVar 1) tNil)) (gName 3)) _ _ _ _
    refine asg (K := K) (a := .d (.list ((partsOf s n).map encL))) (fun H3 e3 Q q => ⟨v, rfl, v, n, s, rfl, hv2.mono e3, B, by omega, q⟩) fun rows H3 e3 hrows => ?_
    have hrows : Dp K H3 rows (.list ((partsOf s n).map encL)) := hrows
    have W3 := W2.step e3
    have hv3 := hv2.mono e3
    have hpos : 0 < (partsOf s n).length := List.length_pos_iff.mpr (parts_ne B (by omega))
    -- what is due
    refine asg (K := K) (a := .d (dueD s n x)) (g_ifE (et_of (K := K) (g_op (g_lenL (g_dv rfl hrows)) g_int rg_eqI)) (fun hz => ?_) (fun hz => ?_)) fun due H4 e4 hdue => ?_
    · have hz := of_decide_eq_true hz
      rw [List.length_map] at hz
      have hz : (partsOf s n).length = 1 := by omega
      unfold dueD
      rw [if_pos hz]
      refine g_tup (ds := [.str "let", encNet (rdg s n x)]) (gs_cons g_str (gs_cons (g_call (gs_cons (g_dv rfl hv3) (gs_cons (a := .d (encL (bfs s n x))) (fun H4 e4 Q q => ⟨v, rfl, nv x, rfl, v, n, s, x, rfl, hv3.mono e4, FS, hx, by omega, fun p H5 hp e5 h5 => q (.ref p) H5 e5 (dp_L (sq_of h5))⟩) gs_nil)) (spg_num FS (by omega) (bfs_nodup FS hx) (bfs_lt FS hx) (bfs_closed FS hx))) gs_nil)) (by show 2 ≤ 100000; omega)
    · have hz := of_decide_eq_false hz
      rw [List.length_map] at hz
      have hz : (partsOf s n).length ≠ 1 := by omega
      unfold dueD
      rw [if_neg hz]
      obtain ⟨r, hr1⟩ : ∃ r, (partsOf s n)[1]? = some r := ⟨_, List.getElem?_eq_getElem (by omega)⟩
      obtain ⟨s1, s2⟩ := second_eq B hr1
      obtain ⟨y, tl, rfl⟩ : ∃ y tl, r = y :: tl := by
        cases r with
        | nil => exact absurd rfl s2
        | cons y tl => exact ⟨y, tl, rfl⟩
      rw [s1]
      exact g_tup (ds := [.str "apart", encN y]) (gs_cons g_str (gs_cons (g_ixL (i := 0) (ds := (y :: tl).map encN) (g_ixL (i := 1) (ds := (partsOf s n).map encL) (d := encL (y :: tl)) (g_dv rfl hrows) g_int (by rw [List.getElem?_map, hr1]; rfl)) g_int rfl) gs_nil)) (by show 2 ≤ 100000; omega)
    have hdue : Dp K H4 due (dueD s n x) := hdue
    have hdf : flatT (dueD s n x) = true := by
      unfold dueD
      split
      · rw [flatT]
        exact flatTs_of fun d hd => by
          rcases List.mem_cons.mp hd with rfl | hd
          · rfl
          · rw [List.mem_singleton.mp hd]
            exact flat_Net _
      · rfl
    have W4 := W3.step e4
    have hv4 := hv3.mono e4
    have neg1 : ∀ {σ : L2.St} {H2 : Hp}, EvG K (tUn (rU fun i => .int (-i)) (tC (.int 1))) σ H2 (.d (.int (-1))) := g_un g_int ru_neg
    -- a wrong flag
    refine q_asgW (fun th H' => ∃ d Hm, Tiny d ∧ d.depth ≤ 2 ∧ withinD d 0 ((n : Int) - 1) = false ∧ Ex (cutH m g H4) Hm ∧ Wd m c g (b + 2) Hm H' ∧ Dr K Hm th d) (fun Q q => of_things (ds := [.int (-1), encN n, .bool true, .none, .str "0", .list [], .dict []]) W4 (by omega)
      (cs_cons (c_flat W4 neg1 rfl) (cs_cons (c_flat W4 (g_len0 FS (g_dv rfl hv4)) rfl) (cs_cons (c_flat W4 g_bl rfl) (cs_cons (c_flat W4 g_non rfl) (cs_cons (c_flat W4 g_str rfl) (cs_cons (c_nil W4) (cs_cons (c_dnew W4) cs_nil))))))) rfl (by show 0 < 7; omega) (by show 7 ≤ 1000; omega) Q fun th H' Hm ⟨d, hd, hth⟩ eM WM => q th H' ⟨d, Hm, ?_, ?_, ?_, eM, WM, hth⟩) fun th H5 hth => ?_
    · simp only [List.mem_cons, List.not_mem_nil, or_false] at hd
      rcases hd with rfl | rfl | rfl | rfl | rfl | rfl | rfl
      · exact ⟨by decide +kernel, by decide +kernel, by decide +kernel⟩
      · exact nat_ok (n := 101) (by omega) (by omega)
      · exact ⟨by decide +kernel, by decide +kernel, by decide +kernel⟩
      · exact ⟨by decide +kernel, by decide +kernel, by decide +kernel⟩
      · exact ⟨by decide +kernel, by decide +kernel, by decide +kernel⟩
      · exact ⟨by decide +kernel, by decide +kernel, by decide +kernel⟩
      · exact ⟨by decide +kernel, by decide +kernel, by decide +kernel⟩
    · simp only [List.mem_cons, List.not_mem_nil, or_false] at hd
      rcases hd with rfl | rfl | rfl | rfl | rfl | rfl | rfl
      · decide +kernel
      · exact Nat.le_trans (depth_N n) (by decide)
      · decide +kernel
      · decide +kernel
      · decide +kernel
      · decide +kernel
      · decide +kernel
    · simp only [List.mem_cons, List.not_mem_nil, or_false] at hd
      rcases hd with rfl | rfl | rfl | rfl | rfl | rfl | rfl
      · rfl
      · unfold encN withinD
        rw [Bool.and_eq_false_iff]
        exact .inr (decide_eq_false (by omega))
      · rfl
      · rfl
      · rfl
      · rfl
      · rfl
    obtain ⟨d, Hm, htiny, hdep, hwd, eM, W5, hth⟩ := hth
    have e0m : Ex H0 Hm := W4.exc.trans eM
    have hv5 : Dp K H5 v (encNet s) := hv0.mono (e0m.trans W5.ex)
    have hdue5 : Dp K H5 due (dueD s n x) := ((W4.cutT hdue hdf).mono eM).mono W5.ex
    have hth5 := dr_mono hth W5.ex
    obtain ⟨tot, htot⟩ : ∃ tot, tot = PyData.list [dueD s n x, .tuple [.str "flag", d], netD "apart" (some 0)] := ⟨_, rfl⟩
    obtain ⟨c0, hch0, hg0, _, _⟩ := FS.get (c := 0) (by omega)
    obtain ⟨c1, hch1, hg1, _, _⟩ := FS.get (c := 1) (by omega)
    have hbad : ∀ {σ : L2.St} {H' : Hp}, σ[1]? = some (some v) → Dp K H' v (encNet s) → EvG K (tTup (tCons (tOp (rIxT K) (tVar 1) (tC (.int 0))) (tCons (tOp (rIxT K) (tVar 1) (tC (.int 1))) (tCons (tOp (rIxT K) (tVar 1) (tC (.int 0))) tNil)))) σ H' (.d (encNet (badN s))) := fun {σ H'} h1 h2 => by
      refine g_is (g_tup (ds := [encR c0, encR c1, encR c0]) (gs_cons (g_ixT (i := 0) (g_dv h1 h2) g_int (encNet_get hch0)) (gs_cons (g_ixT (i := 1) (g_dv h1 h2) g_int (encNet_get hch1)) (gs_cons (g_ixT (i := 0) (g_dv h1 h2) g_int (encNet_get hch0)) gs_nil))) (by show 3 ≤ 100000; omega)) ?_
      unfold badN
      rw [hg0, hg1]
      rfl
    have hread : ReadR s none (encN x) (dueD s n x) := by
      refine .inr ⟨rfl, n, GS, .inr ?_⟩
      have hw : withinD (encN x) 0 ((n : Int) - 1) = true := by
        unfold encN withinD
        rw [Bool.and_eq_true]
        exact ⟨decide_eq_true (by omega), decide_eq_true (by omega)⟩
      unfold dueD
      by_cases hz : (partsOf s n).length = 1
      · rw [if_pos hz]
        exact .inr ⟨hw, by omega, x, rfl, rfl⟩
      · rw [if_neg hz]
        exact .inl ⟨hw, by omega, rfl⟩
    refine q_asgR (K := K) (d := tot) (by
      rw [htot]
      refine r_lst (rs_cons (fun H6 e6 Q q => ⟨v, rfl, nv x, rfl, v, nv x, s, none, encN x, dueD s n x, rfl, hv5.mono e6, GS.fl, .dp (.int _), hread, q⟩) (rs_cons (fun H6 e6 Q q => ⟨v, rfl, th, rfl, v, th, s, none, d, .tuple [.str "flag", d], rfl, hv5.mono e6, GS.fl, dr_mono hth5 e6, .inr ⟨rfl, n, GS, .inl ⟨hwd, rfl⟩⟩, q⟩)
        (rs_cons (fun H6 e6 Q q => tcall_at ((hbad (by rfl) hv5) H6 e6 _ fun y H7 e7 hy => ⟨th, rfl, y, th, badN s, some ("apart", some 0), d, netD "apart" (some 0), rfl, hy, bad_fl GS, dr_mono hth5 (e6.trans e7), .inl ⟨_, _, rfl, rfl⟩, fun z H8 e8 hz => q z H8 (e7.trans e8) hz⟩)) rs_nil))) (by show 3 ≤ 100000; omega)) fun told H6 e6 htold => ?_
    have hsec : second s n < n ∨ (partsOf s n).length = 1 := by
      by_cases hz : (partsOf s n).length = 1
      · exact .inr hz
      · left
        obtain ⟨r, hr1⟩ : ∃ r, (partsOf s n)[1]? = some r := ⟨_, List.getElem?_eq_getElem (by omega)⟩
        rw [(second_eq B hr1).1]
        exact (part_head B (List.mem_of_getElem? hr1)).1
    have hdueS : (dueD s n x).showable = true ∧ (dueD s n x).depth ≤ 28 ∧ szD (dueD s n x) ≤ 2100 := by
      unfold dueD
      split
      · have hF := rdg_form FS hx
        have hl := bfs_len FS hx
        have := sm_Net hF (by omega)
        exact str_ok (by decide +kernel) ⟨this.1, Nat.le_trans (depth_Net _) (by decide), by omega⟩
      · rename_i hz
        have h2 : second s n < n := hsec.resolve_right hz
        have := nat_ok h2 (by omega)
        exact str_ok (by decide +kernel) ⟨this.1, Nat.le_trans (depth_N _) (by decide), by omega⟩
    have htotS : Sm tot 100000 := by
      rw [htot]
      refine sm_list (c := 2100) (fun e he => ?_) (by show 2 + 2102 * 3 ≤ 100000; omega)
      simp only [List.mem_cons, List.not_mem_nil, or_false] at he
      rcases he with rfl | rfl | rfl
      · exact hdueS
      · exact str_ok (by decide +kernel) ⟨htiny.1, by omega, by have := htiny.2.2; omega⟩
      · exact ⟨by decide +kernel, by decide +kernel, by decide +kernel⟩
    have W6 := W5.step e6
    refine retA (K := K) (a := .d (.bool true)) (r_same (d := tot) (r_var rfl htold) (by
      rw [htot]
      exact r_lst (rs_cons (r_var rfl (.dp (hdue5.mono e6))) (rs_cons (r_tup (rs_cons (r_g g_str) (rs_cons (r_var rfl (dr_mono hth5 e6)) rs_nil)) (by show 2 ≤ 100000; omega)) (rs_cons (r_g (g_tup (ds := [.str "net", .str "apart", .int 0]) (gs_cons g_str (gs_cons g_str (gs_cons g_int gs_nil))) (by show 3 ≤ 100000; omega))) rs_nil))) (by show 3 ≤ 100000; omega)) htotS (.inl ⟨_, htot⟩)) (fun y H7 e7 hy => ?_) rfl
    cases Dp.bl_eq hy
    have W7 := W6.step e7
    exact q _ _ (e0m.trans W7.exc) W7.full
end
end Nk
/-! ## G3: the law -/
namespace Nk
open PySem PySem.Spec PyProof.Rows L2 Evl

/-! ### by hand -/
def lowN : Net := [[1, 0, 3, 2], [1, 0, 3, 2], [2, 3, 0, 1]]
def highN : Net := [[1, 0, 3, 2], [2, 3, 0, 1], [2, 3, 0, 1]]
theorem sort2 {α : Type} (le : α → α → Bool) (a b : α) : [a, b].mergeSort le = if le a b = true then [a, b] else [b, a] := by
  simp [List.mergeSort, List.MergeSort.Internal.splitInTwo, List.merge]
theorem hand1 : leastNet lowN 4 = lowN := by decide +kernel
theorem hand2 : leastNet (laid 4 highN lowN) 8 = laid 4 lowN highN := by
  have h1 : prsOf (laid 4 highN lowN) 8 = [(4, highN), (4, lowN)] := by decide +kernel
  have h2 : PySem.W.dataLe false encP (4, highN) (4, lowN) = false := by decide +kernel
  unfold leastNet sprs
  rw [h1, sort2, h2, if_neg (by decide)]
  decide +kernel
theorem hand3 : foundL lowN highN 4 4 = none := by decide +kernel
theorem hand4 : foundL (laid 4 lowN highN) (laid 4 highN lowN) 8 8 = some [4, 5, 6, 7, 0, 1, 2, 3] := by decide +kernel
theorem low_good : Good 4 lowN := good_of ⟨rfl, by decide, by decide⟩ (by decide) (by decide) (by decide) (by decide) (by decide) (by decide)
theorem high_good : Good 4 highN := good_of ⟨rfl, by decide, by decide⟩ (by decide) (by decide) (by decide) (by decide) (by decide) (by decide)
def spLaw (K : PySem.W.Frag) : Sp := fun vs H Q _ => ∃ (a : Addr) (ns : List Int), vs = [.ref a] ∧ SqL K H a (ns.map V.int) ∧ ns.length ≤ 1000 ∧ ∀ H', Q (.bl true) H'
/-- a net that the law has drawn -/
def Nt (K : PySem.W.Frag) (H : Hp) (v : V) : Prop := ∃ n s, Good n s ∧ n ≤ 16 ∧ Dp K H v (encNet s)
def Nt1 (K : PySem.W.Frag) (H : Hp) (v : V) : Prop := ∃ n s, Good n s ∧ n ≤ 16 ∧ One n s ∧ Dp K H v (encNet s)
theorem Nt.mono {K : PySem.W.Frag} {H H' : Hp} {v : V} (h : Nt K H v) (e : Ex H H') : Nt K H' v := let ⟨n, s, a, b, c⟩ := h; ⟨n, s, a, b, c.mono e⟩
theorem Nt1.mono {K : PySem.W.Frag} {H H' : Hp} {v : V} (h : Nt1 K H v) (e : Ex H H') : Nt1 K H' v := let ⟨n, s, a, b, o, c⟩ := h; ⟨n, s, a, b, o, c.mono e⟩
theorem Nt1.nt {K : PySem.W.Frag} {H : Hp} {v : V} (h : Nt1 K H v) : Nt K H v := let ⟨n, s, a, b, _, c⟩ := h; ⟨n, s, a, b, c⟩
section
variable {K : PySem.W.Frag} {σ : L2.St} {H H0 : Hp} {ta tb : TE} {tt : TT} {tu tz : TS} {D : Ends} {m c g : Addr} {b n k i : Nat} {s t : Net} {E : XK}
theorem tn_two (hm : σ[i]? = some (some (.ref m))) (ha : EvG K ta σ H (.d (encNet s))) (hb : EvG K tb σ H (.d (encNet t))) (W : Wd m c g b H0 H) (hbb : b + 40 ≤ 1000000) (GS : Good n s) (GT : Good k t) (hn : n ≤ 32) (hk : k ≤ 32) (hbd : ∀ i ≤ (partsOf s n).length, bnd k i ≤ 40000) {Q : Bool → Hp → Prop}
    (q : ∀ H1 H2, Ex H0 H1 → Wd m c g (b + 40) H1 H2 → Q false H2) : tNot (L2.tB (tCall (spTwo K) [] E (tCons (tVar i) (tCons ta (tCons tb tNil))))) σ H Q := by
  refine ⟨.ref m, hm, ?_⟩
  refine ha H (Ex.refl H) _ fun v H1 e1 hv => hb H1 e1 _ fun u H2 e2 hu => ?_
  have W2 := (W.step e1).step e2
  exact ⟨m, c, g, b, n, k, s, t, v, u, cutH m g H2, rfl, W2.full, hbb, W2.cutT (Dp.mono hv e2) (flat_Net _), W2.cutT hu (flat_Net _), GS, GT, hn, hk, hbd, fun H3 H4 e3 W4 => ⟨true, rfl, q H3 H4 (W2.exc.trans e3) W4⟩⟩
theorem tn_rdg (hm : σ[i]? = some (some (.ref m))) (ha : EvG K ta σ H (.d (encNet s))) (W : Wd m c g b H0 H) (hbb : b + 2 ≤ 1000000) (GS : Good n s) (hn : n ≤ 100) {Q : Bool → Hp → Prop}
    (q : ∀ H1 H2, Ex H0 H1 → Wd m c g (b + 2) H1 H2 → Q false H2) : tNot (L2.tB (tCall (spRdg K) [] E (tCons (tVar i) (tCons ta tNil)))) σ H Q := by
  refine ⟨.ref m, hm, ?_⟩
  refine ha H (Ex.refl H) _ fun v H1 e1 hv => ?_
  have W1 := W.step e1
  exact ⟨m, c, g, b, n, s, v, cutH m g H1, rfl, W1.full, hbb, W1.cutT hv (flat_Net _), GS, hn, fun H3 H4 e3 W4 => ⟨true, rfl, q H3 H4 (W1.exc.trans e3) W4⟩⟩
theorem t_or {t u : TT} {Q : Bool → Hp → Prop} (h : t σ H fun c H1 => if c = true then Q true H1 else u σ H1 Q) : L2.tOr t u σ H Q := h
theorem q_whenW (M : Hp → Prop) (h : ∀ Q : Bool → Hp → Prop, (∀ H', M H' → Q false H') → tt σ H Q) (k : ∀ H', M H' → tz D σ H') : tSeq (tIfS tt tu tNext) tz D σ H := h _ fun H' hM => by
  show (if false = true then _ else _)
  rw [if_neg (by decide)]
  exact k H' hM
theorem s_whenW (M : Hp → Prop) (h : ∀ Q : Bool → Hp → Prop, (∀ H', M H' → Q false H') → tt σ H Q) (k : ∀ H', M H' → D.nx σ H') : tIfS tt tu tNext D σ H := h _ fun H' hM => by
  show (if false = true then _ else _)
  rw [if_neg (by decide)]
  exact k H' hM
theorem t_orN (M : Hp → Prop) {t u : TT} {Q : Bool → Hp → Prop} (h : ∀ Q' : Bool → Hp → Prop, (∀ H', M H' → Q' false H') → t σ H Q') (k : ∀ H', M H' → u σ H' Q) : L2.tOr t u σ H Q := h _ fun H' hM => by
  show (if false = true then _ else _)
  rw [if_neg (by decide)]
  exact k H' hM
/-- over a list made on the spot, what it holds being drawn -/
theorem s_forLst {ta : TA} {j : Nat} (M : List V → Hp → Prop) (Pv : List V → Addr → Nat → L2.St → Hp → Prop) (h : ∀ Q : List V → Hp → Prop, (∀ vs H', M vs H' → Q vs H') → ta σ H Q) (hM : ∀ vs H', M vs H' → vs.length ≤ 1000)
    (h0 : ∀ vs H1 p, M vs H1 → H1 p = none → Pv vs p 0 σ (upd H1 p (.lst vs))) (hl : ∀ vs p i σ' H', Pv vs p i σ' H' → SqL K H' p vs)
    (hs : ∀ vs p i x σ' H', vs[i]? = some x → Pv vs p i σ' H' → tu { D with nx := Pv vs p (i + 1), ct := Pv vs p (i + 1), bk := D.nx } (σ'.set j (some x)) H') (hd : ∀ vs p σ' H', Pv vs p vs.length σ' H' → D.nx σ' H') : tFor (iList K (tLst ta)) (gName j) tu D σ H := by
  unfold tFor iList
  refine h _ fun vs H1 hm => ⟨sz_of (by have := hM vs H1 hm; omega), fun p hp => ⟨p, rfl, ⟨vs, sq_of upd_same⟩, ?_⟩⟩
  exact for_list (Pv vs p) (h0 vs H1 p hm hp) (fun i σ' H' _ hP => hl vs p i σ' H' hP) (fun i x σ' H' hx hP => hs vs p i x σ' H' hx hP) (fun σ' H' hP => hd vs p σ' H' hP)
/-- a, b = two of one tuple -/
theorem q_asg2 {te : TE} {i j : Nat} {d1 d2 : PyData} (h : EvG K te σ H (.d (.tuple [d1, d2]))) (k : ∀ v1 v2 H1, Ex H H1 → Dp K H1 v1 d1 → Dp K H1 v2 d2 → tz D ((σ.set i (some v1)).set j (some v2)) H1) : tSeq (tAsg te (gTup K 2 (gCons (gName i) (gCons (gName j) gNil)))) tz D σ H :=
  h H (Ex.refl H) _ fun v H1 e1 hv => by
    have hv : Dp K H1 v (.tuple [d1, d2]) := hv
    cases hv with
    | @tup p xs _ h1 h2 =>
      have h3 : ∃ v1 v2, xs = [v1, v2] ∧ Dp K H1 v1 d1 ∧ Dp K H1 v2 d2 := by
        cases h2 with
        | cons a h2 =>
          cases h2 with
          | cons b h2 =>
            cases h2
            exact ⟨_, _, rfl, a, b⟩
      obtain ⟨v1, v2, rfl, a, b⟩ := h3
      have kk := k v1 v2 H1 e1 a b
      clear k h h2
      unfold gTup gCons gNil gName
      exact ⟨p, [v1, v2], rfl, h1, rfl, v1, [v2], rfl, v2, [], rfl, rfl, kk⟩
theorem g_row4 {a b c d : Nat} : EvG K (tTup (tCons (tC (.int a)) (tCons (tC (.int b)) (tCons (tC (.int c)) (tCons (tC (.int d)) tNil))))) σ H (.d (encR [a, b, c, d])) := g_tup (ds := [encN a, encN b, encN c, encN d]) (gs_cons g_int (gs_cons g_int (gs_cons g_int (gs_cons g_int gs_nil)))) (by show 4 ≤ 100000; omega)
theorem g_net3 {t1 t2 t3 : TE} {r1 r2 r3 : List Nat} (h1 : EvG K t1 σ H (.d (encR r1))) (h2 : EvG K t2 σ H (.d (encR r2))) (h3 : EvG K t3 σ H (.d (encR r3))) : EvG K (tTup (tCons t1 (tCons t2 (tCons t3 tNil)))) σ H (.d (encNet [r1, r2, r3])) := g_tup (ds := [encR r1, encR r2, encR r3]) (gs_cons h1 (gs_cons h2 (gs_cons h3 gs_nil))) (by show 3 ≤ 100000; omega)
theorem g_min2 {i j : Nat} (ha : EvG K ta σ H (.d (.int i))) (hb : EvG K tb σ H (.d (.int j))) : EvG K (tCB (fun xs H Q => ∃ i j, xs = [.int i, .int j] ∧ Q (.int (if j < i then j else i)) H) (tCons ta (tCons tb tNil))) σ H (.d (.int (min i j : Nat))) := fun H1 e Q q =>
  ha H1 e _ fun x H2 e2 hx => hb H2 (e.trans e2) _ fun y H3 e3 hy => by
    cases Dp.int_eq hx
    cases Dp.int_eq hy
    refine ⟨(i : Int), (j : Int), rfl, ?_⟩
    have : (if (j : Int) < (i : Int) then (j : Int) else (i : Int)) = ((min i j : Nat) : Int) := by
      split <;> omega
    rw [this]
    exact q _ H3 (e2.trans e3) (.int _)
end
section
variable {P : Program} {w : World} {K : PySem.W.Frag} {mg : Str → Option Value} {base : Heap} {bn bf bl nj : Addr}
theorem sc_law : FnScope ["_law_script", "_law_m", "_law_turn", "_law_net_here", "_law_moved", "_law_near_here", "_law_other", "_law_bad", "_law_told", "_law_low", "_law_high", "_law_read_here"] ["_law_script"] (defScope (top 67)) := ⟨rfl, rfl, rfl, by decide +kernel, rfl, by decide +kernel, by decide +kernel⟩
theorem kn_law (T : Txt K mg) (G_law_begun : Kn P w K mg base CX0 2 "_law_begun" ["_law_script"] (spBegun K)) (G_law_joined : Kn P w K mg base CX0 5 "_law_joined" ["_law_m", "_law_most"] (spJoinedD K)) (G_law_net : Kn P w K mg base CX0 4 "_law_net" ["_law_m", "_law_most"] (spNet K))
    (G_law_even_net : Kn P w K mg base CX0 4 "_law_even_net" ["_law_m"] (spEven K)) (G_law_numbered : Kn P w K mg base CX0 1 "_law_numbered" ["_law_net_here", "_law_order_here"] (spNum K)) (G_law_order : Kn P w K mg base CX0 3 "_law_order" ["_law_m", "_law_many"] spOrder)
    (G_law_near : Kn P w K mg base CX0 3 "_law_near" ["_law_m", "_law_net_here"] (spNear K)) (G_law_right_two : KnG P w K mg base 9 "_law_right_two" ["_law_m", "_law_net_here", "_law_other"] (spTwo K)) (G_law_right_reading : KnG P w K mg base 10 "_law_right_reading" ["_law_m", "_law_net_here"] (spRdg K))
    (G_law_laid : Kn P w K mg base CX0 1 "_law_laid" ["_law_net_here", "_law_other"] (spLaid K)) (G_law_needed : Kn P w K mg base CX0 7 "_law_needed" ["_law_net_here", "_law_other", "_law_value"] (spNeeded K)) (G_law_like : KnG P w K mg base 1 "_law_like" ["_law_got", "_law_due"] (spSame K))
    (G_least_net : Kn P w K mg base CX0 6 "least_net" ["net"] (spLeastNet K)) (G_likeness : Kn P w K mg base CX0 6 "likeness" ["net", "other_net"] (spLike2 K)) : KnG P w K mg base 11 "law" ["_law_script"] (spLaw K) := by
  obtain ⟨f, fd, F, hm⟩ := (T.df 56 (p := (67, "law")) rfl)
  refine kng_ok F hm sc_law (fun _ _ _ _ _ _ us hl => match us, hl with | [_], _ => rfl) (fun vs H Q E h => ?_) (fun cdv A outer s H vs Q E hr hG h => ?_)
  · obtain ⟨a, ns, rfl, _⟩ := h
    rfl
  · obtain ⟨a, ns, rfl, hsc, hns, q⟩ := h
    refine ⟨_, (pss_cons (ps_set (i := 1) sc_law.nd rfl (Or.inl rfl) (pe_kn G_law_begun (hr.mono (by decide)) (by rfl) pass0 (pa_cons (pv 0) pa_nil)))
  (pss_cons (ps_for PassesOwn.never rfl (pi_range1 rfl T.range (pa_cons (pe_op op_add pe_int (pe_callB (call_min2 rfl) (by rfl) T.min bt_min (pa_cons (pe_callB (cK_len (K := K) (by rfl)) (by rfl) T.len bt_len (pa_cons (pv 0) pa_nil)) (pa_cons pe_int pa_nil)))) pa_nil)) (pg_name (i := 2) sc_law.nd rfl (by first | exact Or.inl rfl | exact Or.inr rfl))
  (pss_one (ps_for PassesOwn.never rfl (piK_list (K := K) (by rfl) (pe_lst (pa_cons (pe_kn G_law_joined (hr.mono (by decide)) (by rfl) pass0 (pa_cons (pv 1) (pa_cons pe_int pa_nil))) (pa_cons (pe_kn G_law_net (hr.mono (by decide)) (by rfl) pass0 (pa_cons (pv 1) (pa_cons pe_int pa_nil))) (pa_cons (pe_kn G_law_even_net (hr.mono (by decide)) (by rfl) pass0 (pa_cons (pv 1) pa_nil)) pa_nil))))) (pg_name (i := 3) sc_law.nd rfl (by first | exact Or.inl rfl | exact Or.inr rfl))
  (pss_cons (ps_set (i := 4) sc_law.nd rfl (Or.inl rfl) (pe_kn G_law_numbered (hr.mono (by decide)) (by rfl) pass0 (pa_cons (pv 3) (pa_cons (pe_kn G_law_order (hr.mono (by decide)) (by rfl) pass0 (pa_cons (pv 1) (pa_cons (pe_callB (cK_len (K := K) (by rfl)) (by rfl) T.len bt_len (pa_cons (pe_ix (ixK_tup (K := K) (by rfl)) (pv 3) pe_int (fun _ _ => rfl)) pa_nil)) pa_nil))) pa_nil))))
  (pss_cons (ps_set (i := 5) sc_law.nd rfl (Or.inl rfl) (pe_kn G_law_near (hr.mono (by decide)) (by rfl) pass0 (pa_cons (pv 1) (pa_cons (pv 4) pa_nil))))
  (pss_one (ps_if (PW.pt (pw_or (pt_not (pt_val (pe_kg G_law_right_two (hr.mono (by decide)) hG (by rfl) (pa_cons (pv 1) (pa_cons (pv 3) (pa_cons (pv 4) pa_nil)))))) (pw_or (pt_not (pt_val (pe_kg G_law_right_two (hr.mono (by decide)) hG (by rfl) (pa_cons (pv 1) (pa_cons (pv 5) (pa_cons (pv 3) pa_nil)))))) (pw_or1 (pt_not (pt_val (pe_kg G_law_right_reading (hr.mono (by decide)) hG (by rfl) (pa_cons (pv 1) (pa_cons (pv 3) pa_nil)))))))))
  (pss_one (ps_ret pe_bl))
  pss_nil)))))))
  (pss_cons (ps_set (i := 6) sc_law.nd rfl (Or.inl rfl) (pe_kn G_law_joined (hr.mono (by decide)) (by rfl) pass0 (pa_cons (pv 1) (pa_cons pe_int pa_nil))))
  (pss_cons (ps_if (PW.pt (pw_or (pt_not (pt_val (pe_kg G_law_right_two (hr.mono (by decide)) hG (by rfl) (pa_cons (pv 1) (pa_cons (pv 3) (pa_cons (pv 6) pa_nil)))))) (pw_or1 (pt_not (pt_val (pe_kg G_law_right_two (hr.mono (by decide)) hG (by rfl) (pa_cons (pv 1) (pa_cons (pe_kn G_law_laid (hr.mono (by decide)) (by rfl) pass0 (pa_cons (pv 3) (pa_cons (pv 6) pa_nil))) (pa_cons (pe_kn G_law_laid (hr.mono (by decide)) (by rfl) pass0 (pa_cons (pv 6) (pa_cons (pv 3) pa_nil))) pa_nil)))))))))
  (pss_one (ps_ret pe_bl))
  pss_nil)
  (pss_cons (ps_set (i := 7) sc_law.nd rfl (Or.inl rfl) (pe_tup (pa_cons (pe_ix (ixK_tup (K := K) (by rfl)) (pv 3) pe_int (fun _ _ => rfl)) (pa_cons (pe_ix (ixK_tup (K := K) (by rfl)) (pv 3) pe_int (fun _ _ => rfl)) (pa_cons (pe_ix (ixK_tup (K := K) (by rfl)) (pv 3) pe_int (fun _ _ => rfl)) pa_nil)))))
  (pss_cons (ps_set (i := 8) sc_law.nd rfl (Or.inl rfl) (pe_lst (pa_cons (pe_kn G_law_needed (hr.mono (by decide)) (by rfl) pass0 (pa_cons (pv 7) (pa_cons pe_non (pa_cons pe_int pa_nil)))) (pa_cons (pe_kn G_law_needed (hr.mono (by decide)) (by rfl) pass0 (pa_cons (pv 3) (pa_cons (pv 7) (pa_cons pe_int pa_nil)))) (pa_cons (pe_kn G_law_needed (hr.mono (by decide)) (by rfl) pass0 (pa_cons (pv 3) (pa_cons (pe_slice (slK_tup (K := K) (by rfl)) (pv 3) po_none (po_some pe_int)) (pa_cons pe_int pa_nil)))) pa_nil)))))
  (pss_cons (ps_if (pt_not (pt_val (pe_kg G_law_like (hr.mono (by decide)) hG (by rfl) (pa_cons (pv 8) (pa_cons (pe_lst (pa_cons (pe_tup (pa_cons pe_str (pa_cons pe_str (pa_cons pe_int pa_nil)))) (pa_cons (pe_tup (pa_cons pe_str (pa_cons pe_str (pa_cons pe_int pa_nil)))) (pa_cons (pe_tup (pa_cons pe_str (pa_cons pe_str (pa_cons pe_non pa_nil)))) pa_nil)))) pa_nil)))))
  (pss_one (ps_ret pe_bl))
  pss_nil)
  (pss_cons (ps_asg (pe_tup (pa_cons (pe_tup (pa_cons (pe_tup (pa_cons pe_int (pa_cons pe_int (pa_cons pe_int (pa_cons pe_int pa_nil))))) (pa_cons (pe_tup (pa_cons pe_int (pa_cons pe_int (pa_cons pe_int (pa_cons pe_int pa_nil))))) (pa_cons (pe_tup (pa_cons pe_int (pa_cons pe_int (pa_cons pe_int (pa_cons pe_int pa_nil))))) pa_nil)))) (pa_cons (pe_tup (pa_cons (pe_tup (pa_cons pe_int (pa_cons pe_int (pa_cons pe_int (pa_cons pe_int pa_nil))))) (pa_cons (pe_tup (pa_cons pe_int (pa_cons pe_int (pa_cons pe_int (pa_cons pe_int pa_nil))))) (pa_cons (pe_tup (pa_cons pe_int (pa_cons pe_int (pa_cons pe_int (pa_cons pe_int pa_nil))))) pa_nil)))) pa_nil))) (pg_tup rfl (pgs_cons (pg_name (i := 9) sc_law.nd rfl (by first | exact Or.inl rfl | exact Or.inr rfl)) (pgs_cons (pg_name (i := 10) sc_law.nd rfl (by first | exact Or.inl rfl | exact Or.inr rfl)) pgs_nil))))
  (pss_cons (ps_set (i := 8) sc_law.nd rfl (Or.inl rfl) (pe_lst (pa_cons (pe_kn G_least_net (hr.mono (by decide)) (by rfl) pass0 (pa_cons (pv 9) pa_nil)) (pa_cons (pe_kn G_least_net (hr.mono (by decide)) (by rfl) pass0 (pa_cons (pe_kn G_law_laid (hr.mono (by decide)) (by rfl) pass0 (pa_cons (pv 10) (pa_cons (pv 9) pa_nil))) pa_nil)) (pa_cons (pe_kn G_likeness (hr.mono (by decide)) (by rfl) pass0 (pa_cons (pv 9) (pa_cons (pv 10) pa_nil))) (pa_cons (pe_kn G_likeness (hr.mono (by decide)) (by rfl) pass0 (pa_cons (pe_kn G_law_laid (hr.mono (by decide)) (by rfl) pass0 (pa_cons (pv 9) (pa_cons (pv 10) pa_nil))) (pa_cons (pe_kn G_law_laid (hr.mono (by decide)) (by rfl) pass0 (pa_cons (pv 10) (pa_cons (pv 9) pa_nil))) pa_nil))) pa_nil))))))
  (pss_cons (ps_set (i := 11) sc_law.nd rfl (Or.inl rfl) (pe_tup (pa_cons (pe_tup (pa_cons pe_int (pa_cons pe_int (pa_cons pe_int (pa_cons pe_int pa_nil))))) (pa_cons (pe_tup (pa_cons pe_int (pa_cons pe_int (pa_cons pe_int (pa_cons pe_int pa_nil))))) (pa_cons (pe_tup (pa_cons pe_int (pa_cons pe_int (pa_cons pe_int (pa_cons pe_int pa_nil))))) pa_nil)))))
  (pss_one (ps_ret (pe_kg G_law_like (hr.mono (by decide)) hG (by rfl) (pa_cons (pv 8) (pa_cons (pe_lst (pa_cons (pv 11) (pa_cons (pe_kn G_law_laid (hr.mono (by decide)) (by rfl) pass0 (pa_cons (pv 11) (pa_cons (pv 10) pa_nil))) (pa_cons pe_non (pa_cons (pe_tup (pa_cons pe_int (pa_cons pe_int (pa_cons pe_int (pa_cons pe_int (pa_cons pe_int (pa_cons pe_int (pa_cons pe_int (pa_cons pe_int pa_nil))))))))) pa_nil))))) pa_nil))))))))))))))), ?_⟩
    have hscD : Dp K H (.ref a) (.list (ns.map .int)) := .lst hsc (dpInts ns)
    refine q_asgW (fun x H1 => ∃ m c g H0, x = .ref m ∧ Ex H H0 ∧ Wd m c g 0 H0 H1) (fun Q q => ⟨.ref a, rfl, .ref a, ns, rfl, hscD, hns, fun m c g H0 H2 e W => q _ _ ⟨m, c, g, H0, rfl, e, W⟩⟩) fun x H1 hx => ?_
    obtain ⟨m, c, g, H0, rfl, e0, W0⟩ := hx
    have hsc1 : Dp K H1 (.ref a) (.list (ns.map .int)) := hscD.mono (e0.trans W0.ex)
    have hmn : min ns.length 1 ≤ 1 := Nat.min_le_right _ _
    refine q_forR1 (n := ((1 + min ns.length 1 : Nat) : Int)) (ea_cons (g_ev (g_toV (K := K) (g_is (g_op g_int (g_min2 (j := 1) (g_is (g_lenL (g_dv rfl hsc1)) (by rw [List.length_map])) g_int) rg_add) (by congr 2)))) ea_nil) (by omega)
      (fun i σ' H' => ∃ (y2 y3 y4 y5 : Option V) (bb : Nat) (Hk : Hp), σ' = [some (.ref a), some (.ref m), y2, y3, y4, y5, none, none, none, none, none, none] ∧ Ex H0 Hk ∧ Wd m c g bb Hk H' ∧ bb ≤ 1000 * i ∧ (0 < i → ∃ v, y3 = some v ∧ Nt1 K Hk v))
      (fun H2 e2 => ⟨none, none, none, none, 0, H0, rfl, Ex.refl _, W0.step e2, by omega, fun z => absurd z (by omega)⟩) (fun i σ' H' hi hP => ?_) (fun σ' H' hP => ?_)
    · obtain ⟨y2, y3, y4, y5, bb, Hk, rfl, eK, WK, hbb, _⟩ := hP
      have hi2 : i < 2 := by omega
      show tFor _ _ _ _ _ _
      refine s_forLst (K := K) (fun vs H2 => ∃ v1 v2 v3 Hb, vs = [v1, v2, v3] ∧ Ex Hk Hb ∧ Wd m c g (bb + 211) Hb H2 ∧ Nt K Hb v1 ∧ Nt K Hb v2 ∧ Nt1 K Hb v3)
        (fun vs p j σ2 H2 => ∃ (y3 y4 y5 : Option V) (b2 : Nat) (Hk2 : Hp) (v1 v2 v3 : V), σ2 = [some (.ref a), some (.ref m), some (nv i), y3, y4, y5, none, none, none, none, none, none] ∧ Ex H0 Hk2 ∧ Wd m c g b2 Hk2 H2 ∧ b2 ≤ bb + 211 + 100 * j ∧ Hk2 p = some (.lst vs) ∧ vs = [v1, v2, v3] ∧ Nt K Hk2 v1 ∧ Nt K Hk2 v2 ∧ Nt1 K Hk2 v3 ∧ (∀ k, j = k + 1 → y3 = vs[k]?))
        (fun Q q => ?_) (fun vs H2 hM => ?_) (fun vs H2 p hM hp => ?_) (fun vs p j σ2 H2 hP => ?_) (fun vs p j x σ2 H2 hx hP => ?_) (fun vs p σ2 H2 hP => ?_)
      · refine ⟨.ref m, rfl, m, c, g, bb, 4, Hk, rfl, WK, by omega, by omega, by omega, fun v1 n1 s1 t1 f1 Ha H3 ea Wa Ga hna hfa hsa hva => ?_⟩
        refine ⟨.ref m, rfl, m, c, g, bb + 101, 3, Ha, rfl, Wa, by omega, by omega, by omega, fun v2 n2 s2 Hb H4 eb Wb Gb hnb hvb => ?_⟩
        refine ⟨.ref m, rfl, m, c, g, bb + 101 + 100, Hb, rfl, Wb, by omega, fun v3 n3 s3 Hc H5 ec Wc Gc hnc oc hvc => ?_⟩
        have hl1 := bfs_len Ga.toForm hfa
        refine q _ _ ⟨v1, v2, v3, Hc, rfl, (ea.trans eb).trans ec, Wc, ⟨_, s1, by rw [hsa]; exact good_rdg Ga hfa, by omega, hva.mono (eb.trans ec)⟩, ⟨n2, s2, Gb, by omega, hvb.mono ec⟩, ⟨n3, s3, Gc, hnc, oc, hvc⟩⟩
      · obtain ⟨v1, v2, v3, Hb, rfl, _⟩ := hM
        show 3 ≤ 1000
        omega
      · obtain ⟨v1, v2, v3, Hb, rfl, eb, Wb, h1, h2, h3⟩ := hM
        have en : Ex Hb (upd Hb p (.lst [v1, v2, v3])) := Ex.new (fresh_back Wb.ex hp)
        exact ⟨y3, y4, y5, bb + 211, _, v1, v2, v3, rfl, (eK.trans eb).trans en, Wb.new hp, by omega, upd_same, rfl, h1.mono en, h2.mono en, h3.mono en, fun k hk => by omega⟩
      · obtain ⟨_, _, _, b2, Hk2, _, _, _, _, _, W2, _, hp, _⟩ := hP
        exact sq_of (W2.ex _ _ hp)
      · obtain ⟨z3, z4, z5, b2, Hk2, v1, v2, v3, rfl, e2, W2, hb2, hp, rfl, h1, h2, h3, _⟩ := hP
        have hj3 : j < 3 := (List.getElem?_eq_some_iff.mp hx).1
        have hnt : Nt K Hk2 x := by
          have : j = 0 ∨ j = 1 ∨ j = 2 := by omega
          rcases this with rfl | rfl | rfl
          · cases hx
            exact h1
          · cases hx
            exact h2
          · cases hx
            exact h3.nt
        obtain ⟨n, s, GS, hn, hxD⟩ := hnt
        have n4 := GS.four
        refine q_asgW (fun y H' => ∃ t Hk3, Good n t ∧ Ex Hk2 Hk3 ∧ Wd m c g (b2 + 16) Hk3 H' ∧ Dp K Hk3 y (encNet t)) (fun Q q => ?_) fun y H3 hy => ?_
        · refine ⟨x, rfl, .ref m, rfl, ?_⟩
          refine (g_ev (g_toV (g_len0 (K := K) GS.toForm (g_dv (σ := [some (.ref a), some (.ref m), some (nv i), some x, z4, z5, none, none, none, none, none, none]) (i := 3) rfl (hxD.mono W2.ex))))) H2 (Ex.refl H2) _ fun H3 e3 => ?_
          refine ⟨m, c, g, b2, n, Hk2, rfl, W2.step e3, by omega, by omega, fun p row Ha H4 hperm ea hrow Wa => ?_⟩
          obtain ⟨r1, r2, r3, r4⟩ := perm_row GS.toForm hperm
          refine ⟨x, .ref p, n, s, row, rfl, hxD.mono (ea.trans Wa.ex), dp_L (sq_of (Wa.ex _ _ hrow)), GS.toForm, by omega, r1, r2, r3, fun v9 H9 e9 hv9 => ?_⟩
          have W9 := Wa.step e9
          exact q _ _ ⟨renum s row, cutH m g H9, good_order GS hperm, ea.trans W9.exc, (W9.full).le (by omega), W9.cutT hv9 (flat_Net _)⟩
        obtain ⟨t, Hk3, GT, e3, W3, hyD⟩ := hy
        refine q_asgW (fun z H' => ∃ u Hk4, Good n u ∧ Ex Hk3 Hk4 ∧ Wd m c g (b2 + 18) Hk4 H' ∧ Dp K Hk4 z (encNet u)) (fun Q q => ?_) fun z H4 hz => ?_
        · exact ⟨.ref m, rfl, y, rfl, m, c, g, b2 + 16, n, t, y, Hk3, rfl, W3, by omega, hyD, GT, fun u t' Ha H5 ea Wa Ga hu => q _ _ ⟨t', Ha, Ga, ea, Wa, hu⟩⟩
        obtain ⟨u, Hk4, GU, e4, W4, hzD⟩ := hz
        have hx4 := hxD.mono (e3.trans e4)
        have hy4 := hyD.mono e4
        refine s_whenW (fun H' => ∃ Hk5, Ex Hk4 Hk5 ∧ Wd m c g (b2 + 100) Hk5 H') (fun Q q => ?_) fun H5 hH => ?_
        · refine t_orN (fun H' => ∃ Hk5, Ex Hk4 Hk5 ∧ Wd m c g (b2 + 18 + 40) Hk5 H') (fun Q' q' => tn_two (s := s) (t := t) rfl (g_dv rfl (hx4.mono W4.ex)) (g_dv rfl (hy4.mono W4.ex)) W4 (by omega) GS GT (by omega) (by omega) (bnd16 GS hn hn) fun Ha H6 ea Wa => q' _ ⟨Ha, ea, Wa⟩) fun H6 hH => ?_
          obtain ⟨Hk5, e5, W5⟩ := hH
          refine t_orN (fun H' => ∃ Hk6, Ex Hk5 Hk6 ∧ Wd m c g (b2 + 18 + 40 + 40) Hk6 H') (fun Q' q' => tn_two (s := u) (t := s) rfl (g_dv rfl ((hzD.mono e5).mono W5.ex)) (g_dv rfl ((hx4.mono e5).mono W5.ex)) W5 (by omega) GU GS (by omega) (by omega) (bnd16 GU hn hn) fun Ha H7 ea Wa => q' _ ⟨Ha, ea, Wa⟩) fun H7 hH => ?_
          obtain ⟨Hk6, e6, W6⟩ := hH
          exact tn_rdg (s := s) rfl (g_dv rfl (((hx4.mono e5).mono e6).mono W6.ex)) W6 (by omega) GS (by omega) fun Ha H8 ea Wa => q _ ⟨Ha, (e5.trans e6).trans ea, Wa⟩
        · obtain ⟨Hk5, e5, W5⟩ := hH
          have e25 := (e3.trans e4).trans e5
          refine ⟨some x, some y, some z, b2 + 100, Hk5, v1, v2, v3, rfl, e2.trans e25, W5, by omega, e25 _ _ hp, rfl, h1.mono e25, h2.mono e25, h3.mono e25, fun k hk => ?_⟩
          have : j = k := by omega
          subst this
          exact hx.symm
      · obtain ⟨z3, z4, z5, b2, Hk2, v1, v2, v3, rfl, e2, W2, hb2, hp, rfl, h1, h2, h3, hk⟩ := hP
        have hk2 : z3 = some v3 := hk 2 rfl
        have hb2 : b2 ≤ bb + 211 + 100 * 3 := hb2
        exact ⟨_, z3, z4, z5, b2, Hk2, rfl, e2, W2, by omega, fun _ => ⟨v3, hk2, h3⟩⟩
    · obtain ⟨y2, y3, y4, y5, bb, Hk, rfl, eK, WK, hbb, hv⟩ := hP
      rw [Int.toNat_natCast] at hbb hv
      obtain ⟨v, rfl, n, s, GS, hn, oS, hvD⟩ := hv (by omega)
      have n4 := GS.four
      have FS := GS.toForm
      -- another net
      refine q_asgW (fun o H2 => ∃ k t Hk2, Good k t ∧ k ≤ 12 ∧ One k t ∧ Ex Hk Hk2 ∧ Wd m c g (bb + 101) Hk2 H2 ∧ Dp K Hk2 o (encNet t)) (fun Q q => ?_) fun o H2 ho => ?_
      · refine ⟨.ref m, rfl, m, c, g, bb, 3, Hk, rfl, WK, by omega, by omega, by omega, fun v1 n1 s1 t1 f1 Ha H3 ea Wa Ga hna hfa hsa hva => ?_⟩
        have hl1 := bfs_len Ga.toForm hfa
        exact q _ _ ⟨_, s1, Ha, by rw [hsa]; exact good_rdg Ga hfa, by omega, by rw [hsa]; exact one_rdg Ga hfa, ea, Wa, hva⟩
      obtain ⟨k, t, Hk2, GT, hk, oT, e2, W2, hoD⟩ := ho
      have k4 := GT.four
      have FT := GT.toForm
      have hv2 := hvD.mono e2
      have GL := good_laid GS GT (by omega)
      have GL2 := good_laid GT GS (by omega)
      have hp2 := two_parts GS GT (by omega) oS oT
      refine q_whenW (fun H3 => ∃ Hk3, Ex Hk2 Hk3 ∧ Wd m c g (bb + 181) Hk3 H3) (fun Q q => ?_) fun H3 hH => ?_
      · refine t_orN (fun H' => ∃ Hk3, Ex Hk2 Hk3 ∧ Wd m c g (bb + 101 + 40) Hk3 H') (fun Q' q' => tn_two (s := s) (t := t) rfl (g_dv rfl (hv2.mono W2.ex)) (g_dv rfl (hoD.mono W2.ex)) W2 (by omega) GS GT (by omega) (by omega) (bnd16 GS hn (by omega)) fun Ha H6 ea Wa => q' _ ⟨Ha, ea, Wa⟩) fun H4 hH => ?_
        obtain ⟨Hk3, e3, W3⟩ := hH
        have hv3 := (hv2.mono e3).mono W3.ex
        have ho3 := (hoD.mono e3).mono W3.ex
        exact tn_two (s := laid n s t) (t := laid k t s) rfl (g_call (gs_cons (g_dv rfl hv3) (gs_cons (g_dv rfl ho3) gs_nil)) (spg_laid FS FT (by omega) (by omega) (by omega))) (g_call (gs_cons (g_dv rfl ho3) (gs_cons (g_dv rfl hv3) gs_nil)) (spg_laid FT FS (by omega) (by omega) (by omega))) W3 (by omega) GL GL2 (by omega) (by omega)
          (fun i hi => bnd_two (k + n) (by omega) i (by omega)) fun Ha H6 ea Wa => q _ ⟨Ha, e3.trans ea, Wa⟩
      obtain ⟨Hk3, e3, W3⟩ := hH
      have hv3 : Dp K H3 v (encNet s) := (hv2.mono e3).mono W3.ex
      obtain ⟨c0, hch0, hg0, _, _⟩ := FS.get (c := 0) (by omega)
      obtain ⟨c1, hch1, hg1, _, _⟩ := FS.get (c := 1) (by omega)
      -- a bent net
      refine asg (K := K) (a := .d (encNet (badN s))) (g_is (g_net3 (r1 := c0) (r2 := c1) (r3 := c0) (g_ixT (i := 0) (g_dv rfl hv3) g_int (encNet_get hch0)) (g_ixT (i := 1) (g_dv rfl hv3) g_int (encNet_get hch1)) (g_ixT (i := 0) (g_dv rfl hv3) g_int (encNet_get hch0))) (by unfold badN; rw [hg0, hg1])) fun bad H4 e4 hbad => ?_
      have hbad : Dp K H4 bad (encNet (badN s)) := hbad
      have hv4 := hv3.mono e4
      have hcut : Fl (s.take 2) (some (("form" : Str), none)) := .inl ⟨by rw [List.length_take, FS.three]; decide, rfl⟩
      refine q_asgR (K := K) (d := .list [netD "apart" (some 0), netD "apart" (some 0), netD "form" none]) (r_lst (rs_cons (fun H5 e5 Q q => ⟨bad, rfl, bad, .non, .int 1, badN s, [], some ("apart", some 0), none, .int 1, netD "apart" (some 0), rfl, hbad.mono e5, bad_fl GS, (fun z => by cases z), .inl ⟨_, _, rfl, rfl⟩, q⟩)
        (rs_cons (fun H5 e5 Q q => ⟨v, rfl, bad, rfl, v, bad, .int 1, s, badN s, none, some ("apart", some 0), .int 1, netD "apart" (some 0), rfl, hv4.mono e5, GS.fl, (fun _ => ⟨hbad.mono e5, bad_fl GS, .dp (.int 1)⟩), .inr (.inl ⟨rfl, _, _, rfl, rfl⟩), q⟩)
        (rs_cons (fun H5 e5 Q q => ⟨v, rfl, (g_is (g_slTo (K := K) (hi := 2) (g_dv (by rfl) hv4) g_int) (by unfold encNet; rw [List.map_take]) : EvG K _ _ H4 (.d (encNet (s.take 2)))) H5 e5 _ fun y H6 e6 hy => ⟨v, y, .int 1, s, s.take 2, none, some ("form", none), .int 1, netD "form" none, rfl, hv4.mono (e5.trans e6), GS.fl, (fun _ => ⟨hy, hcut, .dp (.int 1)⟩), .inr (.inl ⟨rfl, _, _, rfl, rfl⟩), fun z H8 e8 hz => q z H8 (e6.trans e8) hz⟩⟩) rs_nil))) (by show 3 ≤ 100000; omega)) fun told H5 e5 htold => ?_
      have gNet1 : ∀ {σ : L2.St} {H' : Hp}, EvG K (tTup (tCons (tC (.str "net")) (tCons (tC (.str "apart")) (tCons (tC (.int 0)) tNil)))) σ H' (.d (netD "apart" (some 0))) := g_tup (ds := [.str "net", .str "apart", .int 0]) (gs_cons g_str (gs_cons g_str (gs_cons g_int gs_nil))) (by show 3 ≤ 100000; omega)
      have gNet2 : ∀ {σ : L2.St} {H' : Hp}, EvG K (tTup (tCons (tC (.str "net")) (tCons (tC (.str "form")) (tCons (tC .non) tNil)))) σ H' (.d (netD "form" none)) := g_tup (ds := [.str "net", .str "form", .none]) (gs_cons g_str (gs_cons g_str (gs_cons g_non gs_nil))) (by show 3 ≤ 100000; omega)
      refine q_when (b := false) (et_is (et_not (a := true) (et_of (K := K) (r_same (r_var rfl htold) (r_lst (rs_cons (r_g gNet1) (rs_cons (r_g gNet1) (rs_cons (r_g gNet2) rs_nil))) (by show 3 ≤ 100000; omega)) ⟨by decide +kernel, by decide +kernel, by decide +kernel⟩ (.inl ⟨_, rfl⟩)))) rfl) (fun z => by cases z) (fun _ H6 e6 => ?_)
      -- by hand
      refine q_asg2 (K := K) (d1 := encNet lowN) (d2 := encNet highN) (g_tup (ds := [encNet lowN, encNet highN]) (gs_cons (g_net3 g_row4 g_row4 g_row4) (gs_cons (g_net3 g_row4 g_row4 g_row4) gs_nil)) (by show 2 ≤ 100000; omega)) fun lo hi H7 e7 hlo hhi => ?_
      have gl : lowN.length = 3 := rfl
      have FL := low_good.toForm
      have FH := high_good.toForm
      have GLH := good_laid low_good high_good (by decide)
      have GHL := good_laid high_good low_good (by decide)
      refine asg (K := K) (a := .d (.list [encNet lowN, encNet (laid 4 lowN highN), .none, encR [4, 5, 6, 7, 0, 1, 2, 3]])) (g_lst (ds := [encNet lowN, encNet (laid 4 lowN highN), .none, encR [4, 5, 6, 7, 0, 1, 2, 3]]) (gs_cons ?_ (gs_cons ?_ (gs_cons ?_ (gs_cons ?_ gs_nil)))) (by show 4 ≤ 100000; omega)) fun t2 H8 e8 ht2 => ?_
      · exact g_is (g_call (gs_cons (g_dv rfl hlo) gs_nil) (spg_least low_good)) (by rw [hand1])
      · exact g_is (g_call (gs_cons (g_call (gs_cons (g_dv rfl hhi) (gs_cons (g_dv rfl hlo) gs_nil)) (spg_laid FH FL (by decide) (by decide) (by decide))) gs_nil) (spg_least GHL)) (by rw [hand2])
      · exact g_is (g_call (gs_cons (g_dv rfl hlo) (gs_cons (g_dv rfl hhi) gs_nil)) (spg_like2 low_good high_good)) (by rw [hand3]; rfl)
      · exact g_is (g_call (gs_cons (g_call (gs_cons (g_dv rfl hlo) (gs_cons (g_dv rfl hhi) gs_nil)) (spg_laid FL FH (by decide) (by decide) (by decide))) (gs_cons (g_call (gs_cons (g_dv rfl hhi) (gs_cons (g_dv rfl hlo) gs_nil)) (spg_laid FH FL (by decide) (by decide) (by decide))) gs_nil)) (spg_like2 GLH GHL)) (by rw [hand4]; rfl)
      have ht2 : Dp K H8 t2 (.list [encNet lowN, encNet (laid 4 lowN highN), .none, encR [4, 5, 6, 7, 0, 1, 2, 3]]) := ht2
      refine asg (K := K) (a := .d (encNet lowN)) (g_net3 g_row4 g_row4 g_row4) fun rd H9 e9 hrd => ?_
      have hrd : Dp K H9 rd (encNet lowN) := hrd
      have hhi9 := hhi.mono (e8.trans e9)
      refine retA (K := K) (a := .d (.bool true)) (r_same (d := .list [encNet lowN, encNet (laid 4 lowN highN), .none, encR [4, 5, 6, 7, 0, 1, 2, 3]]) (r_var rfl (.dp (ht2.mono e9))) (r_g (g_lst (ds := [encNet lowN, encNet (laid 4 lowN highN), .none, encR [4, 5, 6, 7, 0, 1, 2, 3]]) (gs_cons (g_dv rfl hrd) (gs_cons (g_call (gs_cons (g_dv rfl hrd) (gs_cons (g_dv rfl hhi9) gs_nil)) (spg_laid FL FH (by decide) (by decide) (by decide))) (gs_cons g_non (gs_cons ?_ gs_nil)))) (by show 4 ≤ 100000; omega))) ⟨by decide +kernel, by decide +kernel, by decide +kernel⟩ (.inl ⟨_, rfl⟩)) (fun y Ha ea hy => ?_) rfl
      · exact g_tup (ds := [encN 4, encN 5, encN 6, encN 7, encN 0, encN 1, encN 2, encN 3]) (gs_cons g_int (gs_cons g_int (gs_cons g_int (gs_cons g_int (gs_cons g_int (gs_cons g_int (gs_cons g_int (gs_cons g_int gs_nil)))))))) (by show 8 ≤ 100000; omega)
      · cases Dp.bl_eq hy
        exact q Ha
end
end Nk
/-! ## Z1: all promises together -/
namespace Nk
open PySem PySem.Spec PyProof.Rows L2 Evl

theorem law_known {P : Program} {w : World} {K : PySem.W.Frag} {mg : Str → Option Value} {base : Heap} {bn bf bl nj : Addr} (T : Txt K mg) (XS : Exs P w K mg base bn bf bl nj) : KnG P w K mg base 11 "law" ["_law_script"] (spLaw K) := by
  have G_met_from := kn_met_from (P := P) (w := w) (base := base) T
  have G_law_part := kn_law_part (P := P) (w := w) (base := base) T
  have G_numbered := kn_numbered (P := P) (w := w) (base := base) T
  have G_law_numbered := kn_law_numbered (P := P) (w := w) (base := base) T
  have G_laid_beside := kn_laid_beside (P := P) (w := w) (base := base) T
  have G_law_laid := kn_law_laid (P := P) (w := w) (base := base) T
  have G_all_parts := kn_all_parts (P := P) (w := w) (base := base) T G_met_from
  have G_law_parts := kn_law_parts (P := P) (w := w) (base := base) T G_law_part
  have G_is_whole := kn_is_whole (P := P) (w := w) (base := base) T
  have G_is_within := kn_is_within (P := P) (w := w) (base := base) T G_is_whole
  have G_is_tuple_of := kn_is_tuple_of (P := P) (w := w) (base := base) T
  have G_law_is_int := kn_law_is_int (P := P) (w := w) (base := base) T
  have G_has_form := kn_has_form (P := P) (w := w) (base := base) T G_is_tuple_of G_is_within
  have G_breaks := kn_breaks (P := P) (w := w) (base := base) T
  have G_net_fault := kn_net_fault (P := P) (w := w) (base := base) T G_has_form G_breaks
  have G_spread := kn_spread (P := P) (w := w) (base := base) T
  have G_law_match := kn_law_match (P := P) (w := w) (base := base) T
  have G_free_spread := kn_free_spread (P := P) (w := w) (base := base) T G_spread
  have G_found_likeness := kn_found_likeness (P := P) (w := w) (base := base) T G_free_spread
  have G_least_reading := kn_least_reading (P := P) (w := w) (base := base) T G_met_from G_numbered
  have G_law_least_reading := kn_law_least_reading (P := P) (w := w) (base := base) T G_law_part G_law_numbered
  have G_least_parts := kn_least_parts (P := P) (w := w) (base := base) T G_all_parts G_least_reading
  have G_law_least := kn_law_least (P := P) (w := w) (base := base) T G_law_laid G_law_parts G_law_least_reading
  have G_need_net := kn_need_net (P := P) (w := w) (base := base) T XS G_net_fault
  have G_need_flag := kn_need_flag (P := P) (w := w) (base := base) T XS G_is_within
  have G_parts := kn_parts (P := P) (w := w) (base := base) T XS G_need_net G_all_parts
  have G_need_joined := kn_need_joined (P := P) (w := w) (base := base) T XS G_parts
  have G_reading_from := kn_reading_from (P := P) (w := w) (base := base) T XS G_need_net G_need_flag G_need_joined G_numbered G_met_from
  have G_least_net := kn_least_net (P := P) (w := w) (base := base) T XS G_need_net G_least_parts G_laid_beside
  have G_likeness := kn_likeness (P := P) (w := w) (base := base) T XS G_need_net G_found_likeness
  have G_are_alike := kn_are_alike (P := P) (w := w) (base := base) T G_likeness
  have G_likeness_fault := kn_likeness_fault (P := P) (w := w) (base := base) T G_is_tuple_of G_is_within
  have G_law_place := kn_law_place (P := P) (w := w) (base := base) T G_law_is_int
  have G_is_likeness := kn_is_likeness (P := P) (w := w) (base := base) T XS G_need_net G_likeness_fault
  have G_need_likeness := kn_need_likeness (P := P) (w := w) (base := base) T XS G_need_net G_likeness_fault
  have G_law_needed := kn_law_needed (P := P) (w := w) (base := base) T XS G_need_likeness
  have G_law_read := kn_law_read (P := P) (w := w) (base := base) T XS G_reading_from
  have G_law_like := kn_law_like (P := P) (w := w) (base := base) T
  have G_law_right_value := kn_law_right_value (P := P) (w := w) (base := base) T G_law_place G_law_like G_is_likeness G_law_needed
  have G_law_mixed := kn_law_mixed (P := P) (w := w) (base := base) T
  have G_law_draw := kn_law_draw (P := P) (w := w) (base := base) T G_law_mixed
  have G_law_folded := kn_law_folded (P := P) (w := w) (base := base) T
  have G_law_begun := kn_law_begun (P := P) (w := w) (base := base) T G_law_folded
  have G_law_of := kn_law_of (P := P) (w := w) (base := base) T G_law_draw
  have G_law_order := kn_law_order (P := P) (w := w) (base := base) T G_law_draw
  have G_law_paired := kn_law_paired (P := P) (w := w) (base := base) T
  have G_law_net := kn_law_net (P := P) (w := w) (base := base) T G_law_draw G_law_order G_law_numbered G_law_paired
  have G_law_joined := kn_law_joined (P := P) (w := w) (base := base) T G_law_draw G_law_net G_law_numbered G_law_part
  have G_law_near := kn_law_near (P := P) (w := w) (base := base) T G_law_draw
  have G_law_far_net := kn_law_far_net (P := P) (w := w) (base := base) T
  have G_law_glue := kn_law_glue (P := P) (w := w) (base := base) T
  have G_law_even_net := kn_law_even_net (P := P) (w := w) (base := base) T G_law_draw G_law_order G_law_numbered G_law_far_net G_law_glue
  have G_law_fresh := kn_law_fresh (P := P) (w := w) (base := base) T
  have G_law_all_likenesses := kn_law_all_likenesses (P := P) (w := w) (base := base) T G_law_parts G_law_match G_law_fresh
  have G_law_right_two := kn_law_right_two (P := P) (w := w) (base := base) T G_law_all_likenesses G_law_like G_likeness G_are_alike G_least_net G_law_least G_law_of G_law_order G_law_draw G_law_right_value
  have G_law_right_reading := kn_law_right_reading (P := P) (w := w) (base := base) T G_law_draw G_law_parts G_law_part G_law_numbered G_law_of G_law_read G_law_like
  have G_law := kn_law (P := P) (w := w) (base := base) T G_law_begun G_law_joined G_law_net G_law_even_net G_law_numbered G_law_order G_law_near G_law_right_two G_law_right_reading G_law_laid G_law_needed G_law_like G_least_net G_likeness
  exact G_law
end Nk
/-! ## Z2: the law is called where no guard is under way -/
namespace Nk
open PySem PySem.Spec PyProof.Rows L2 Evl

/-- the script alone is tracked, unless the written part has it -/
def solo (K : PySem.W.Frag) (a : Addr) (o : Obj) (xs : List V) : Hp := fun b => if b = a ∧ K.lookup a = none then some (.frz o (.lst xs)) else none
section
variable {K : PySem.W.Frag} {a b : Addr} {o : Obj} {xs : List V} {u : HO}
theorem solo_is (h : solo K a o xs b = some u) : b = a ∧ K.lookup a = none ∧ u = .frz o (.lst xs) := by
  unfold solo at h
  by_cases c : b = a ∧ K.lookup a = none
  · rw [if_pos c] at h
    exact ⟨c.1, c.2, (Option.some.inj h).symm⟩
  · rw [if_neg c] at h
    cases h
theorem solo_ne (h : b ≠ a) : solo K a o xs b = none := if_neg fun z => h z.1
theorem solo_in (h : K.lookup a ≠ none) : solo K a o xs b = none := if_neg fun z => h z.2
theorem solo_sq {vs : List Value} (hv : Vals xs vs) (hz : vs.length ≤ sizeLine) {h : Heap} (X : K.In h) (ha : h.get? a = some { cls := .type "list", data := .seq vs.toArray }) :
    SqL K (solo K a { cls := .type "list", data := .seq vs.toArray } xs) a xs := by
  cases q : K.lookup a with
  | none => exact .inl (.inr ⟨_, if_pos ⟨rfl, q⟩⟩)
  | some ob =>
    have e := X a ob q
    rw [ha] at e
    cases e
    exact .inr ⟨_, _, _, q, rfl, rfl, rfl, by simpa using hz, by simpa using hv⟩
end
theorem law_end {P : Program} {w : World} {K : PySem.W.Frag} {mg mb : Str → Option Value} {k : Nat} {fa a : Addr} {x y : Str} {sp : Sp} {s : Shared} {vs : List Value} {ns : List Int}
    (X : K.In s.heap) (nG : s.heap.Ns mainGlobals mg) (nB : s.heap.Ns builtinsNs mb) (hB : ∀ y : Str, y ≠ "__name__" → mb y = bootBuiltins y) (nL : s.heap.NoLimit) (hg : s.gens = #[])
    (ha : s.heap.get? a = some { cls := .type "list", data := .seq vs.toArray }) (hi : IntsAre vs ns) (hz : ns.length ≤ sizeLine) (hr : Room k callerA)
    (F : ∀ base : Heap, K.In base → KnG P w K mg base k y [x] sp) (hm : mg y = some (.ref fa))
    (hs : ∀ H : Hp, SqL K H a (ns.map V.int) → sp [.ref a] H (fun v _ => v = .bl true) fun _ _ _ => False) :
    codeAny (model P w) callerA (.call (.ref fa) ⟨[.ref a], []⟩) (fun r t => r = .ok (.ret (.bool true)) ∧ OldK s.heap t.heap ∧ t.os = s.os ∧ AllBare t.gens) s := by
  have hv : Vals (ns.map V.int) vs := vals_ints hi
  have hlen : vs.length = ns.length := hi.length
  obtain ⟨S, hS⟩ : ∃ S, S = solo K a { cls := .type "list", data := .seq vs.toArray } (ns.map V.int) := ⟨_, rfl⟩
  have sq : SqL K S a (ns.map V.int) := by
    rw [hS]
    exact solo_sq hv (by omega) X ha
  have back : ∀ {b : Addr} {o : Obj}, s.heap.get? b = some o → b ≠ a → (hidT s.heap S).get? b = some o := fun e ne => hidT_get e (by rw [hS]; exact solo_ne ne)
  have names : ∀ {b : Addr} {m : Str → Option Value}, s.heap.Ns b m → (hidT s.heap S).Ns b m := fun {b m} n => by
    obtain ⟨o, es, ep, e, d, r⟩ := n
    refine ⟨o, es, ep, back e fun z => ?_, d, r⟩
    rw [z, ha] at e
    cases e
    cases d
  have inB : K.In (hidT s.heap S) := fun b o e => hidT_get (X b o e) (by
    rw [hS]
    by_cases z : b = a
    · exact solo_in (by rw [← z, e]; exact fun q => by cases q)
    · exact solo_ne z)
  have tracked : HOk P w S s.heap := fun b u h => by
    rw [hS] at h
    obtain ⟨rfl, _, rfl⟩ := solo_is h
    exact ⟨ha, by rw [List.length_map]; exact hz, vs, _, hv, ha⟩
  have M : Mod K mg (hidT s.heap S) := ⟨inB, names nG, ⟨mb, names nB, hB⟩, (let ⟨c, h1, h2⟩ := nL; ⟨c, names h1, h2⟩)⟩
  have E0' : Env0 P w K mg (hidT s.heap S) callerA [] s S :=
    { frames := rfl, mod := M, bs := fun b o e => of_hidT e, bsz := Nat.le_of_eq (hidT_size s.heap S), funs := trivial, frf := (fun b hb => absurd (show b ∈ ([] : List Addr) from hb) (List.not_mem_nil)), hok := tracked, bare := .of_eq hg }
  obtain ⟨f, fd, G, hf, _, hb⟩ := (F _ inB).ex
  rw [hm] at hf
  cases hf
  have bt : BindsTo s fd ⟨[.ref a], []⟩ [(x, .ref a)] := hb s [.ref a] X rfl
  have run := G.run callerA [] s S ⟨[.ref a], []⟩ [.ref a] [.ref a] _ _ hr rfl E0' bt (.cons rfl .nil) (hs S sq)
  refine codeAny_mono run fun r t h => ?_
  match r, h with
  | .error e, h => exact False.elim h
  | .ok .next, h => exact False.elim h
  | .ok .brk, h => exact False.elim h
  | .ok .cont, h => exact False.elim h
  | .ok (.ret u), h =>
    obtain ⟨v, H', os, bare, un, ok', rv, hq⟩ := h
    have hq : v = .bl true := hq
    subst hq
    have hu : u = Value.bool true := rv
    subst hu
    refine ⟨rfl, .of_keep fun b o e => ?_, os, bare⟩
    cases c : S b with
    | none => exact un.keep b o e c (fun z => absurd (show b ∈ ([] : List Addr) from z) (List.not_mem_nil)) List.not_mem_nil
    | some ho =>
      have c2 := c
      rw [hS] at c2
      obtain ⟨_, _, rfl⟩ := solo_is c2
      have o1 := (tracked b _ c).1
      rw [e] at o1
      have o2 := (ok' b _ (un.frzs b _ _ c)).1
      rw [o2, ← o1]
theorem walk_N {l : PySem.W.OpenLaw} {n k : Nat} {q : Program} {loose : List Str} {XP : (Str → Option Value) → Heap → Prop} {YP : World → Heap → Prop} {d : DefRec} {x : Str}
    (hn : l.most = some n) (hz : n ≤ sizeLine) (hdf : d.params.defaults = []) (hr : Room k callerA)
    (F : ∀ (w : World) (mg : Str → Option Value) (h : Heap), YP w h → h.Ns mainGlobals mg →
      ∃ (K : PySem.W.Frag) (sp : Sp), K.In h ∧ (∀ (H : Hp) (a : Addr) (ns : List Int), ns.length ≤ n → SqL K H a (ns.map V.int) → sp [.ref a] H (fun v _ => v = .bl true) fun _ _ _ => False) ∧ ∀ base : Heap, K.In base → KnG l.prog w K mg base k d.name [x] sp) :
    PySem.W.WalkO q loose XP YP l.row.toRowW d [] (fun f vs => PySem.call f vs) :=
  Att.attach_call hn hdf fun w s0 s1 mg mb fa o pm cd doc a vs ns G Y ho hd hcd hmg hobj hints hlen hg => by
    obtain ⟨K, sp, X, hs, hF⟩ := F w mg s1.heap Y G.T.g
    exact law_end X G.T.g G.T.b G.T.builtins G.T.nolimit hg hobj hints (by omega) hr hF hmg fun H sq => hs H a ns hlen sq
end Nk
/-! ## Z3: what is looked at behind the top, and what it gives -/
namespace Nk
open PySem PySem.Spec PyProof.Rows L2 Evl

def fnN : List He.DefD := defsL.map fun p => mkD p.1 p.2
def freeN : List String := ["len", "isinstance", "all", "any", "range", "tuple", "enumerate", "sorted", "zip", "set", "list", "min", "dict", "repr", "int", "bool", "super"]
def exmN : List (String × String × Bool) := [("BadNet", "BadNet", true), ("BadFlag", "BadNet", false), ("BadLikeness", "BadNet", false), ("NotJoined", "BadNet", false), ("BadFlag", "BadFlag", true), ("NotJoined", "BadFlag", false), ("BadLikeness", "BadLikeness", true), ("NotJoined", "NotJoined", true)]
def iniN : List (Nat × String) := [(2, "BadNet"), (3, "BadFlag"), (4, "BadLikeness"), (5, "NotJoined")]
def faN : List He.Fa := (defsL.map fun p => He.Fa.glo (Str.ofString p.2)) ++ (freeN.map fun x => He.Fa.free (Str.ofString x)) ++ (exmN.map fun p => He.Fa.exm (Str.ofString p.1) (Str.ofString p.2.1) p.2.2) ++ (iniN.map fun p => He.Fa.glo (Str.ofString p.2)) ++ [.int "MOST_FLAGS" 960]
def fileN : Str := PySem.Challenge.pw_netsredrawn_k13_whole_least_forms.main.file
abbrev IniV : Type := Option (Str × Str × Arguments × FuncBody × Scope × Addr × List Str × Value × Addr)
def clA (K : PySem.W.Frag) (x : String) : Addr := He.ga K (Str.ofString x)
def inA (K : PySem.W.Frag) (x : String) : Addr := He.ma K (clA K x) "__init__"
def qN (x : String) : Str := Str.ofString (x ++ ".__init__")
def iniW (K : PySem.W.Frag) (x : String) : IniV := match K.lookup (inA K x) with
  | some ⟨_, _, .func fd, _⟩ => some (fd.name, fd.qualname, fd.params, fd.body, fd.scope, fd.globals, fd.closure.map (·.1), fd.defaults, fd.builtins)
  | _ => none
def iniX (i : Nat) (x : String) : IniV := some ("__init__", qN x, defArgs (ini i), .stmts (defBody (ini i)), defScope (ini i), mainGlobals, ["__class__"], .none, builtinsNs)
def sysB (K : PySem.W.Frag) : Bool := match K.lookup sysModules with
  | some ⟨.type t, _, _, _⟩ => decide (t = "dict")
  | _ => false
def fileB (K : PySem.W.Frag) (c : Addr) : Bool := match K.lookup c with
  | some ⟨_, _, .fields vs, _⟩ => (match (vs[2]? : Option Value) with
    | some (.str y _) => fileN == y
    | _ => false)
  | _ => false
def cellB (K : PySem.W.Frag) (c C : Addr) : Bool := match K.lookup c with
  | some ⟨_, _, .cell (some (.ref A)), _⟩ => decide (A = C)
  | _ => false
def iniB (K : PySem.W.Frag) (C f : Addr) (q : Str) : Bool := match K.lookup f with
  | some ⟨_, _, .func fd, _⟩ => (match fd.closure, fd.code with
    | [(_, cc)], .ref cd => PySem.W.codeIn K (.ref cd) q && (fileB K cd && cellB K cc C)
    | _, _ => false)
  | _ => false
def oexB (K : PySem.W.Frag) (C : Addr) : Bool := match K.lookup C with
  | some ⟨.type t, _, .cls cd, sl⟩ => (match cd.mro, sl.toList with
    | .ref A :: bm, [_, _, _, _, some (.builtin n), _] => decide (t = "type") && (decide (A = C) && (decide (n = "ValueError.__new__") && (!cd.hasDel && (cd.hasDict && PySem.HandSPX.refsVE bm))))
    | _, _ => false)
  | _ => false
def restB (K : PySem.W.Frag) (C f : Addr) : List Bool :=
  [decide (PySem.W.findIn K (.ref C) "__setattr__" = some (some (.builtin "object.__setattr__"))), decide (PySem.W.subIn K (.ref C) (.type "BaseException") = some true), decide (PySem.W.typeIn K (.ref C) = some (.type "type")), PySem.W.keepIn K (.ref C),
    decide (PySem.W.mroIn K C (.ref C) = some true), decide (PySem.W.nsIn K cStatics "thirdparty.any" = some none), decide (PySem.W.ks_superIn K C C "__init__" = some (some (.builtin "ValueError.__init__"))), decide (PySem.W.subIn K (.ref C) (.type "ValueError") = some true),
    decide (PySem.W.findIn K (.ref C) "word" = some none), decide (PySem.W.findIn K (.ref C) "flag" = some none), decide (PySem.W.findIn K (.ref C) "place" = some none),
    decide (PySem.W.findIn K (.ref C) "__init__" = some (some (.ref f))), decide (PySem.W.typeIn K (.ref f) = some (.type "function")), PySem.W.keepIn K (.ref f), xfB K C]
def clsB (K : PySem.W.Frag) (x : String) : Bool := oexB K (clA K x) && (iniB K (clA K x) (inA K x) (qN x) && (restB K (clA K x) (inA K x)).all id)
def fragN (g : Addr → Option Obj) : PySem.W.Frag := He.frG g (sysModules :: cStatics :: He.asD g 4)
abbrev AlN : Type := He.AlD × List IniV × Bool
def obsN (K : PySem.W.Frag) : AlN := (He.obsD faN fnN K, iniN.map fun p => iniW K p.2, sysB K && iniN.all fun p => clsB K p.2)
def okN : AlN := (He.valD fnN, iniN.map fun p => iniX p.1 p.2, true)
def hookN : PySem.W.Hook where
  α := AlN
  obs := fun s => obsN (fragN s.heap.get?)
  val := fun _ => okN
  says := fun _ h => ∃ K : PySem.W.Frag, K.In h ∧ obsN K = okN
  of := fun _ _ e => ⟨_, He.frG_in, e⟩
  keeps := fun _ _ _ ⟨K, hK, c⟩ k => ⟨K, PySem.W.Frag.In.keeps hK k, c⟩
def obN (s : PySem.W.SharedT) : AlN := obsN (fragN (HandSHeadRun.getT s))
theorem obN_eq (s : PySem.W.SharedT) : obN s = hookN.obs s.abs := by
  have e : HandSHeadRun.getT s = s.abs.heap.get? := funext (HandSHeadRun.getT_eq s)
  show obsN (fragN (HandSHeadRun.getT s)) = obsN (fragN s.abs.heap.get?)
  rw [e]
/-! ### what it gives -/
section
variable {K : PySem.W.Frag} {h : Heap} {mg : Str → Option Value}
theorem b2 {a b : Bool} (h : (a && b) = true) : a = true ∧ b = true := by
  cases a <;> cases b <;> simp_all
theorem obs_says (c : obsN K = okN) : He.SaysD faN fnN K := congrArg Prod.fst c
theorem obs_ini (c : obsN K = okN) {i : Nat} {x : String} (hx : (i, x) ∈ iniN) : iniW K x = iniX i x := by
  have e : (iniN.map fun p => iniW K p.2) = iniN.map fun p => iniX p.1 p.2 := congrArg (fun z : AlN => z.2.1) c
  have := List.map_inj_left.mp e (i, x) hx
  exact this
theorem obs_b (c : obsN K = okN) : sysB K = true ∧ ∀ p ∈ iniN, clsB K p.2 = true := by
  obtain ⟨h1, h2⟩ := b2 (show (sysB K && iniN.all fun p => clsB K p.2) = true from congrArg (fun z : AlN => z.2.2) c)
  exact ⟨h1, fun p hp => List.all_eq_true.mp h2 p hp⟩
theorem obs_fact (c : obsN K = okN) {f : He.Fa} (hf : f ∈ faN) : f.ok K = true := by
  obtain ⟨i, hi⟩ := List.mem_iff_getElem?.mp hf
  exact (obs_says c).fact i hi
theorem glo_def (p : Nat × String) (hp : p ∈ defsL) : He.Fa.glo (Str.ofString p.2) ∈ faN := by
  unfold faN
  exact List.mem_append_left _ (List.mem_append_left _ (List.mem_append_left _ (List.mem_append_left _ (List.mem_map.mpr ⟨p, hp, rfl⟩))))
theorem glo_free (x : String) (hx : x ∈ freeN) : He.Fa.free (Str.ofString x) ∈ faN := by
  unfold faN
  exact List.mem_append_left _ (List.mem_append_left _ (List.mem_append_left _ (List.mem_append_right _ (List.mem_map.mpr ⟨x, hx, rfl⟩))))
theorem exm_in (p : String × String × Bool) (hp : p ∈ exmN) : He.Fa.exm (Str.ofString p.1) (Str.ofString p.2.1) p.2.2 ∈ faN := by
  unfold faN
  exact List.mem_append_left _ (List.mem_append_left _ (List.mem_append_right _ (List.mem_map.mpr ⟨p, hp, rfl⟩)))
theorem glo_cls (p : Nat × String) (hp : p ∈ iniN) : He.Fa.glo (Str.ofString p.2) ∈ faN := by
  unfold faN
  exact List.mem_append_left _ (List.mem_append_right _ (List.mem_map.mpr ⟨p, hp, rfl⟩))
theorem most_in : He.Fa.int "MOST_FLAGS" 960 ∈ faN := by
  unfold faN
  exact List.mem_append_right _ List.mem_cons_self
theorem txt_of (X : K.In h) (G : h.Ns mainGlobals mg) (c : obsN K = okN) : Txt K mg := by
  have fr : ∀ x ∈ freeN, mg (Str.ofString x) = none := fun x hx => He.free_ok X G (obs_fact c (glo_free x hx))
  refine ⟨fun k p hk => ?_, ?_, He.int_ok X G (obs_fact c most_in), fr "len" (by decide), fr "isinstance" (by decide), fr "all" (by decide), fr "any" (by decide), fr "range" (by decide), fr "tuple" (by decide), fr "enumerate" (by decide), fr "sorted" (by decide), fr "zip" (by decide), fr "set" (by decide), fr "list" (by decide), fr "min" (by decide),
    fr "dict" (by decide), fr "repr" (by decide), fr "int" (by decide), fr "bool" (by decide), fr "super" (by decide)⟩
  · obtain ⟨fd, F⟩ := (obs_says c).def_ k (d := mkD p.1 p.2) (by unfold fnN; rw [List.getElem?_map, hk]; rfl)
    exact ⟨He.ga K (Str.ofString p.2), fd, F, He.glo_ok X G (obs_fact c (glo_def p (List.mem_of_getElem? hk)))⟩
  · have hs := (obs_b c).1
    unfold sysB at hs
    cases e : K.lookup sysModules with
    | none => rw [e] at hs; cases hs
    | some o =>
      obtain ⟨oc, od, dt, sl⟩ := o
      rw [e] at hs
      cases oc with
      | type t =>
        refine ⟨_, e, ?_⟩
        have : t = "dict" := of_decide_eq_true hs
        rw [this]
      | _ => cases hs
theorem oex_of {C f : Addr} (h1 : oexB K C = true) (h2 : ∀ b ∈ restB K C f, b = true) : OexC K C := by
  unfold restB at h2
  simp only [List.mem_cons, List.not_mem_nil, or_false, forall_eq_or_imp, forall_eq] at h2
  obtain ⟨r1, r2, r3, r4, _⟩ := h2
  refine ⟨?_, of_decide_eq_true r1, of_decide_eq_true r2, of_decide_eq_true r3, r4⟩
  unfold oexB at h1
  cases e : K.lookup C with
  | none => rw [e] at h1; cases h1
  | some o =>
    obtain ⟨oc, od, dt, sl⟩ := o
    rw [e] at h1
    cases oc with
    | type t =>
      cases dt with
      | cls cd =>
        obtain ⟨nm, bs, mro, nsA, qn, hd, sn, sub, ab, col, del⟩ := cd
        obtain ⟨sl⟩ := sl
        dsimp only at h1
        split at h1
        · rename_i A bm k0 k1 k2 k3 n k5
          obtain ⟨a1, h1⟩ := b2 h1
          obtain ⟨a2, h1⟩ := b2 h1
          obtain ⟨a3, h1⟩ := b2 h1
          obtain ⟨a4, h1⟩ := b2 h1
          obtain ⟨a5, a6⟩ := b2 h1
          have a1 := of_decide_eq_true a1
          have a2 := of_decide_eq_true a2
          have a3 := of_decide_eq_true a3
          have a4 : del = false := by simpa using a4
          subst a1 a2 a3 a4 a5
          exact ⟨nm, qn, nsA, bs, bm, sn, sub, ab, col, od, k0, k1, k2, k3, k5, rfl, a6⟩
        · cases h1
      | _ => cases h1
    | _ => cases dt <;> cases h1
theorem rest_xf {C f : Addr} (h : ∀ b ∈ restB K C f, b = true) : xfB K C = true := by
  unfold restB at h
  simp only [List.mem_cons, List.not_mem_nil, or_false, forall_eq_or_imp, forall_eq] at h
  exact h.2.2.2.2.2.2.2.2.2.2.2.2.2.2
theorem ini_of {P : Program} (hP : P.main.file = fileN) {i : Nat} {x : String} (h0 : iniW K x = iniX i x) (h1 : clsB K x = true) : ∃ cc cda, IniF P K (clA K x) (inA K x) cc cda (qN x) (defArgs (ini i)) (defBody (ini i)) (defScope (ini i)) := by
  obtain ⟨c1, h1⟩ := b2 h1
  obtain ⟨c2, c3⟩ := b2 h1
  have c3 : ∀ b ∈ restB K (clA K x) (inA K x), b = true := fun b hb => List.all_eq_true.mp c3 b hb
  have O := oex_of c1 c3
  unfold restB at c3
  simp only [List.mem_cons, List.not_mem_nil, or_false, forall_eq_or_imp, forall_eq] at c3
  obtain ⟨r1, r2, r3, r4, r5, r6, r7, r8, r9, r10, r11, r12, r13, r14, r15⟩ := c3
  unfold iniB at c2
  unfold iniW iniX at h0
  cases e : K.lookup (inA K x) with
  | none => rw [e] at c2; cases c2
  | some o =>
    obtain ⟨oc, od, dt, sl⟩ := o
    rw [e] at c2 h0
    cases dt with
    | func fd =>
      obtain ⟨n1, n2, n3, n4, n5, n6, n7, n8, n9, n10, n11, n12, n13, n14, n15⟩ := fd
      simp only [Option.some.injEq, Prod.mk.injEq] at h0
      obtain ⟨d1, d2, d3, d4, d5, d6, d7, d8, d9⟩ := h0
      dsimp only at c2
      split at c2
      · rename_i nm cc cd
        obtain ⟨k1, c2⟩ := b2 c2
        obtain ⟨k2, k3⟩ := b2 c2
        have d7 : nm = ("__class__" : Str) := by
          have : ([nm] : List Str) = [("__class__" : Str)] := d7
          exact (List.cons.inj this).1
        refine ⟨cc, cd, ⟨oc, od, n9, n10, n11, n12, n14, sl, ?_⟩, k1, ?_, ?_, ?_, of_decide_eq_true r5, of_decide_eq_true r6, of_decide_eq_true r7, of_decide_eq_true r8, O, ?_, of_decide_eq_true r12, of_decide_eq_true r13, r14⟩
        · rw [e, d1, d2, d3, d4, d5, d6, d7, d8, d9]
        · unfold fileB at k2
          cases e2 : K.lookup cd with
          | none => rw [e2] at k2; cases k2
          | some o2 =>
            obtain ⟨oc2, od2, dt2, sl2⟩ := o2
            rw [e2] at k2
            cases dt2 with
            | fields vs =>
              dsimp only at k2
              cases e3 : vs[2]? with
              | none => rw [e3] at k2; cases k2
              | some v =>
                rw [e3] at k2
                cases v with
                | str y t => exact ⟨oc2, od2, vs, sl2, y, t, (by first | exact e2 | rfl), e3, by rw [hP]; exact k2⟩
                | _ => cases k2
            | _ => cases k2
        · unfold cellB at k3
          cases e2 : K.lookup cc with
          | none => rw [e2] at k3; cases k3
          | some o2 =>
            obtain ⟨oc2, od2, dt2, sl2⟩ := o2
            rw [e2] at k3
            cases dt2 with
            | cell u =>
              cases u with
              | none => cases k3
              | some u =>
                cases u with
                | ref A =>
                  have hA : A = clA K x := of_decide_eq_true k3
                  exact ⟨oc2, od2, sl2, by rw [hA]⟩
                | _ => cases k3
            | _ => cases k3
        · cases e2 : PySem.W.clsIn K (clA K x) with
          | none =>
            have := of_decide_eq_true r5
            unfold PySem.W.mroIn at this
            rw [e2] at this
            cases this
          | some cdD => exact ⟨cdD, rfl⟩
        · intro y hy
          simp only [List.mem_cons, List.not_mem_nil, or_false] at hy
          rcases hy with rfl | rfl | rfl
          · exact of_decide_eq_true r9
          · exact of_decide_eq_true r10
          · exact of_decide_eq_true r11
      · cases c2
    | _ => cases c2
theorem exs_of {P : Program} {w : World} {base : Heap} (hP : P.main.file = fileN) (htop : (P.main.scope.names.lookup ("super" : Str)).isSome = false) (X : K.In h) (G : h.Ns mainGlobals mg) (c : obsN K = okN) : Exs P w K mg base (clA K "BadNet") (clA K "BadFlag") (clA K "BadLikeness") (clA K "NotJoined") := by
  have hs : mg ("super" : Str) = none := (txt_of X G c).super
  have hc := (obs_b c).2
  have m1 : (2, "BadNet") ∈ iniN := by decide
  have m2 : (3, "BadFlag") ∈ iniN := by decide
  have m3 : (4, "BadLikeness") ∈ iniN := by decide
  have m4 : (5, "NotJoined") ∈ iniN := by decide
  have gl : ∀ p ∈ iniN, mg (Str.ofString p.2) = some (.ref (clA K p.2)) := fun p hp => He.glo_ok X G (obs_fact c (glo_cls p hp))
  obtain ⟨_, _, I1⟩ := ini_of hP (obs_ini c m1) (hc _ m1)
  obtain ⟨_, _, I2⟩ := ini_of hP (obs_ini c m2) (hc _ m2)
  obtain ⟨_, _, I3⟩ := ini_of hP (obs_ini c m3) (hc _ m3)
  obtain ⟨_, _, I4⟩ := ini_of hP (obs_ini c m4) (hc _ m4)
  have xf : ∀ {x : String}, clsB K x = true → XfC K (clA K x) := fun {x} h => by
    obtain ⟨_, h⟩ := b2 h
    obtain ⟨_, h⟩ := b2 h
    exact xfB_ok (rest_xf fun b hb => List.all_eq_true.mp h b hb)
  have ex : ∀ p ∈ exmN, PySem.W.exmOne K (.ref (clA K p.1)) (.ref (clA K p.2.1)) = some p.2.2 := fun p hp => He.exm_ok (obs_fact c (exm_in p hp))
  exact ⟨knc_BadNet hs htop (gl _ m1) I1, knc_BadFlag hs htop (gl _ m2) I2, knc_BadLikeness hs htop (gl _ m3) I3, knc_NotJoined hs htop (gl _ m4) I4, ⟨xf (hc _ m1), I1.nof⟩, ⟨xf (hc _ m2), I2.nof⟩, ⟨xf (hc _ m3), I3.nof⟩, ⟨xf (hc _ m4), I4.nof⟩,
    ex ("BadNet", "BadNet", true) (by decide), ex ("BadFlag", "BadNet", false) (by decide), ex ("BadLikeness", "BadNet", false) (by decide), ex ("NotJoined", "BadNet", false) (by decide), ex ("BadFlag", "BadFlag", true) (by decide), ex ("NotJoined", "BadFlag", false) (by decide), ex ("BadLikeness", "BadLikeness", true) (by decide), ex ("NotJoined", "NotJoined", true) (by decide)⟩
end
end Nk
set_option maxHeartbeats 0
/-! ## Z4: the top run in the kernel -/
namespace Nk
open PySem PySem.Spec PyProof.Rows L2

abbrev RowN : PySem.W.OpenRow := PySem.W.OpenLaw.row PySem.Challenge.rw_netsredrawn_k13_whole_least_forms
def nm0 : List Str := [Str.ofString "NetError", Str.ofString "BadNet", Str.ofString "BadFlag", Str.ofString "BadLikeness", Str.ofString "NotJoined", Str.ofString "MOST_FLAGS", Str.ofString "is_whole", Str.ofString "is_within", Str.ofString "is_tuple_of", Str.ofString "has_form", Str.ofString "breaks", Str.ofString "net_fault", Str.ofString "need_net", Str.ofString "need_flag", Str.ofString "met_from", Str.ofString "numbered", Str.ofString "all_parts", Str.ofString "parts", Str.ofString "need_joined", Str.ofString "laid_beside"]
def nm1 : List Str := [Str.ofString "reading_from", Str.ofString "least_reading", Str.ofString "least_parts", Str.ofString "least_net", Str.ofString "spread", Str.ofString "free_spread", Str.ofString "found_likeness", Str.ofString "likeness", Str.ofString "are_alike", Str.ofString "likeness_fault", Str.ofString "is_likeness", Str.ofString "need_likeness", Str.ofString "_law_mixed", Str.ofString "_law_folded", Str.ofString "_law_draw", Str.ofString "_law_begun", Str.ofString "_law_like", Str.ofString "_law_of", Str.ofString "_law_is_int", Str.ofString "_law_order"]
def nm2 : List Str := [Str.ofString "_law_numbered", Str.ofString "_law_paired", Str.ofString "_law_net", Str.ofString "_law_part", Str.ofString "_law_parts", Str.ofString "_law_joined", Str.ofString "_law_match", Str.ofString "_law_laid", Str.ofString "_law_far_net", Str.ofString "_law_glue", Str.ofString "_law_even_net", Str.ofString "_law_least_reading", Str.ofString "_law_least", Str.ofString "_law_all_likenesses", Str.ofString "_law_fresh", Str.ofString "_law_near", Str.ofString "_law_place", Str.ofString "_law_needed", Str.ofString "_law_read", Str.ofString "_law_right_value"]
def nm3 : List Str := [Str.ofString "_law_right_two", Str.ofString "_law_right_reading"]
def looseN : List Str := nm0 ++ nm1 ++ nm2 ++ nm3
theorem runN (w : World) : HandSHeadRun.RunEq RowN (PySem.W.view RowN.prog [67]) hookN obN 6000 looseN w := by
  intro os
  kernel_rfl
end Nk
open PySem PySem.W PySem.Calls PyProof.Rows
theorem PySem.Challenge.cw_netsredrawn_k13_whole_least_forms_holds : PySem.Challenge.rw_netsredrawn_k13_whole_least_forms.Holds := by
  w_on; o_law
  refine HandSHeadRun.head_any (r := OpenLaw.row PySem.Challenge.rw_netsredrawn_k13_whole_least_forms) (q := view (OpenLaw.row PySem.Challenge.rw_netsredrawn_k13_whole_least_forms).prog [67]) (H := Nk.hookN) (ob := Nk.obN) (M := 6000) (loose := Nk.looseN) (d := HandSHeadRun.topDef (OpenLaw.row PySem.Challenge.rw_netsredrawn_k13_whole_least_forms).prog 67) (kwd := []) Nk.obN_eq
    (by kernel_rfl) (fun s => by kernel_rfl) Nk.runN (by kernel_rfl) (by kernel_rfl) (by kernel_rfl) (by rfl) (by first | assumption | decide +kernel) (by decide +kernel) ⟨rfl, rfl, rfl, rfl, rfl, by decide +kernel⟩ ?hw ?hc
  case hw => w_witness2
  case hc =>
    refine Nk.walk_N (l := PySem.Challenge.rw_netsredrawn_k13_whole_least_forms) (n := 63) (k := 11) (x := "_law_script") rfl (by decide) (by kernel_rfl) ⟨rfl, by decide, by decide⟩ ?F
    intro w mg h Y G
    obtain ⟨K, X, c⟩ := Y
    have en : (HandSHeadRun.topDef (OpenLaw.row PySem.Challenge.rw_netsredrawn_k13_whole_least_forms).prog 67).name = ("law" : PySem.Str) := by kernel_rfl
    rw [en]
    exact ⟨K, Nk.spLaw K, X, fun H a ns hl hS => ⟨a, ns, rfl, hS, by omega, fun _ => rfl⟩, fun base _ => Nk.law_known (Nk.txt_of X G c) (Nk.exs_of (by kernel_rfl) (by kernel_rfl) X G c)⟩
