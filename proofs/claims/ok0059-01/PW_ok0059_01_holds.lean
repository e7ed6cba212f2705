import PyProof.Rows.All
import Wide.All
import OpenK.AllK
import Wide.FinOn
import PySem.Challenge.RW_ok0059_01
set_option Elab.async false
set_option linter.all false
section PHead59
open PySem PySem.W PyProof.Rows
theorem Mine.nn : PySem.W.namesOk = PySem.W.namesOk := rfl
name_quick tw16470386560209792295 for PySem.W.namesOk by Mine.nn
name_quick tw8075568018651887793 for PySem.W.namesOk by Mine.nn
name_quick tw8763444116262736839 for PySem.W.namesOk by Mine.nn
name_quick tw15907498808507970773 for PySem.W.namesOk by Mine.nn
name_quick tw2005462138144299255 for PySem.W.namesOk by Mine.nn
name_quick tw5517004485348247490 for PySem.W.namesOk by Mine.nn
name_quick tw353526538468003757 for PySem.W.namesOk by Mine.nn
name_quick tw14979626087600564940 for PySem.W.namesOk by Mine.nn
name_quick tw7615264395923872581 for PySem.W.namesOk by Mine.nn
name_quick tw947111536369973478 for PySem.W.namesOk by Mine.nn
name_quick tw8359286648393180516 for PySem.W.namesOk by Mine.nn
name_quick tw2792339627646198441 for PySem.W.namesOk by Mine.nn
name_quick tw12905708269229584271 for PySem.W.namesOk by Mine.nn
name_quick tw1719230996375869582 for PySem.W.namesOk by Mine.nn
name_quick tw17026713947507217902 for PySem.W.namesOk by Mine.nn
name_quick tw716658179208862652 for PySem.W.namesOk by Mine.nn
name_quick tw15916391134991225584 for PySem.W.namesOk by Mine.nn
name_quick tw14979349462416431397 for PySem.W.namesOk by Mine.nn
name_quick tw9552468772387799933 for PySem.W.namesOk by Mine.nn
name_quick tw9673203406766833760 for PySem.W.namesOk by Mine.nn
name_quick tw17111948838632640456 for PySem.W.namesOk by Mine.nn
name_quick tw1420334683824854120 for PySem.W.namesOk by Mine.nn
name_quick tw8017206721242287953 for PySem.W.namesOk by Mine.nn
name_quick tw14896874001708588922 for PySem.W.namesOk by Mine.nn
name_quick tw1156252341971683116 for PySem.W.namesOk by Mine.nn
name_quick tw7286323032743288035 for PySem.W.namesOk by Mine.nn
name_quick tw2664551874359636763 for PySem.W.namesOk by Mine.nn
name_quick tw11817470609975844035 for PySem.W.namesOk by Mine.nn
name_quick tw12734952128020822468 for PySem.W.namesOk by Mine.nn
name_quick tw6967401301877209104 for PySem.W.namesOk by Mine.nn
name_quick tw8119918657739134586 for PySem.W.namesOk by Mine.nn
name_quick tw13512673800721320934 for PySem.W.namesOk by Mine.nn
name_quick tw6909570525239066004 for PySem.W.namesOk by Mine.nn
name_quick tw3131671291697673992 for PySem.W.namesOk by Mine.nn
name_quick tw9697512110049397445 for PySem.W.namesOk by Mine.nn
name_quick tw13900631225919944168 for PySem.W.namesOk by Mine.nn
name_quick tw18220123701641295943 for PySem.W.namesOk by Mine.nn
name_quick tw16687058600856472310 for PySem.W.namesOk by Mine.nn
name_quick tw2283851925072248500 for PySem.W.namesOk by Mine.nn
name_quick tw4658958612460137192 for PySem.W.namesOk by Mine.nn
name_quick tw14386061602966655976 for PySem.W.namesOk by Mine.nn
name_quick tw383695940523520267 for PySem.W.namesOk by Mine.nn
name_quick tw973662469405803806 for PySem.W.namesOk by Mine.nn
name_quick tw12290603225136948437 for PySem.W.namesOk by Mine.nn
name_quick tw17280976486791472633 for PySem.W.namesOk by Mine.nn
name_quick tw5529568453561195837 for PySem.W.namesOk by Mine.nn
name_quick tw15980859228951719591 for PySem.W.namesOk by Mine.nn
name_quick tw12647630874787467225 for PySem.W.namesOk by Mine.nn
name_quick tw9458956999447867950 for PySem.W.namesOk by Mine.nn
name_quick tw7140130562030077042 for PySem.W.namesOk by Mine.nn
name_quick tw3764465048917985505 for PySem.W.namesOk by Mine.nn
name_quick tw10205541121877940668 for PySem.W.namesOk by Mine.nn
name_quick tw8753696776887207221 for PySem.W.namesOk by Mine.nn
name_quick tw5076957145309523181 for PySem.W.namesOk by Mine.nn
name_quick tw17476080006546285661 for PySem.W.namesOk by Mine.nn
name_quick tw7469732015759309437 for PySem.W.namesOk by Mine.nn
name_quick tw6004533443673955352 for PySem.W.namesOk by Mine.nn
name_quick tw3264259588550801142 for PySem.W.namesOk by Mine.nn
name_quick tw14433975572909055671 for PySem.W.namesOk by Mine.nn
name_quick tw6722154040420286063 for PySem.W.namesOk by Mine.nn
name_quick tw7504490480230193789 for PySem.W.namesOk by Mine.nn
name_quick tw16643706677886111943 for PySem.W.namesOk by Mine.nn
name_quick tw15490439104401381959 for PySem.W.namesOk by Mine.nn
name_quick tw15894407043143930727 for PySem.W.namesOk by Mine.nn
name_quick tw4775785305629353868 for PySem.W.namesOk by Mine.nn
name_quick tw1258717718454355964 for PySem.W.namesOk by Mine.nn
name_quick tw17975652961387846372 for PySem.W.namesOk by Mine.nn
name_quick tw13145125596335152023 for PySem.W.namesOk by Mine.nn
name_quick tw3560238982266916124 for PySem.W.namesOk by Mine.nn
name_quick tw1402947280878808549 for PySem.W.namesOk by Mine.nn
name_quick tw3577408171920636059 for PySem.W.namesOk by Mine.nn
name_quick tw16916688483869632129 for PySem.W.namesOk by Mine.nn
name_quick tw8206430501311747189 for PySem.W.namesOk by Mine.nn
name_quick tw12172078356533094185 for PySem.W.namesOk by Mine.nn
name_quick tw7955060689067889023 for PySem.W.namesOk by Mine.nn
name_quick tw1370275717833778536 for PySem.W.namesOk by Mine.nn
name_quick tw9787396351842916947 for PySem.W.namesOk by Mine.nn
name_quick tw17497748084772794779 for PySem.W.namesOk by Mine.nn
name_quick tw7483462131439158144 for PySem.W.namesOk by Mine.nn
name_quick tw2193789692954389824 for PySem.W.namesOk by Mine.nn
name_quick tw14821650378409806113 for PySem.W.namesOk by Mine.nn
name_quick tw1414301608579184545 for PySem.W.namesOk by Mine.nn
name_quick tw8224813933742928703 for PySem.W.namesOk by Mine.nn
name_quick tw16432479971616331241 for PySem.W.namesOk by Mine.nn
name_quick tw4679858250743294509 for PySem.W.namesOk by Mine.nn
name_quick tw5770868932273138760 for PySem.W.namesOk by Mine.nn
name_quick tw16942194440817826258 for PySem.W.namesOk by Mine.nn
name_quick tw4904739604578439355 for PySem.W.namesOk by Mine.nn
name_quick tw7094674258960923220 for PySem.W.namesOk by Mine.nn
name_quick tw11682084944484805031 for PySem.W.namesOk by Mine.nn
name_quick tw11707371222683016368 for PySem.W.namesOk by Mine.nn
name_quick tw7269565832213808900 for PySem.W.namesOk by Mine.nn
name_quick tw16741492637210864865 for PySem.W.namesOk by Mine.nn
name_quick tw14223099787259518943 for PySem.W.namesOk by Mine.nn
name_quick tw5268983451555188008 for PySem.W.namesOk by Mine.nn
name_quick tw8376441433122354887 for PySem.W.namesOk by Mine.nn
name_quick tw3891137856419664920 for PySem.W.namesOk by Mine.nn
name_quick tw9763268239775435451 for PySem.W.namesOk by Mine.nn
name_quick tw12022618010286034681 for PySem.W.namesOk by Mine.nn
name_quick tw8459811325457737761 for PySem.W.namesOk by Mine.nn
name_quick tw11838138170533393997 for PySem.W.namesOk by Mine.nn
name_quick tw8098380416015320538 for PySem.W.namesOk by Mine.nn
name_quick tw13678640442995254988 for PySem.W.namesOk by Mine.nn
name_quick tw11310463157757771331 for PySem.W.namesOk by Mine.nn
name_quick tw7232422423428716515 for PySem.W.namesOk by Mine.nn
name_quick tw8603108125212654177 for PySem.W.namesOk by Mine.nn
name_quick tw11317593695737139937 for PySem.W.namesOk by Mine.nn
name_quick tw1962928258387122110 for PySem.W.namesOk by Mine.nn
name_quick tw3362959441861295915 for PySem.W.namesOk by Mine.nn
name_quick tw7401281599722004195 for PySem.W.namesOk by Mine.nn
name_quick tw3442601649717412197 for PySem.W.namesOk by Mine.nn
name_quick tw13180171748994924942 for PySem.W.namesOk by Mine.nn
name_quick tw1702518465993881591 for PySem.W.namesOk by Mine.nn
name_quick tw11636919720809706868 for PySem.W.namesOk by Mine.nn
name_quick tw7581816359482902497 for PySem.W.namesOk by Mine.nn
name_quick tw12488000419048109807 for PySem.W.namesOk by Mine.nn
name_quick tw8047484207015712433 for PySem.W.namesOk by Mine.nn
name_quick tw900395245841561262 for PySem.W.namesOk by Mine.nn
name_quick tw6019396324639902685 for PySem.W.namesOk by Mine.nn
name_quick tw1617757218408452269 for PySem.W.namesOk by Mine.nn
name_quick tw6245536207120538393 for PySem.W.namesOk by Mine.nn
name_quick tw5697894365363955025 for PySem.W.namesOk by Mine.nn
name_quick tw16374537267813192141 for PySem.W.namesOk by Mine.nn
name_quick tw10323183001455561277 for PySem.W.namesOk by Mine.nn
name_quick tw6550987210724342151 for PySem.W.namesOk by Mine.nn
name_quick tw16018607276475445134 for PySem.W.namesOk by Mine.nn
name_quick tw2627984346626558326 for PySem.W.namesOk by Mine.nn
name_quick tw7581352650102555174 for PySem.W.namesOk by Mine.nn
name_quick tw11625766737575182897 for PySem.W.namesOk by Mine.nn
name_quick tw16846860572762119324 for PySem.W.namesOk by Mine.nn
name_quick tw17888162413812561239 for PySem.W.namesOk by Mine.nn
name_quick tw13607416678640721797 for PySem.W.namesOk by Mine.nn
name_quick tw15263041282635125899 for PySem.W.namesOk by Mine.nn
name_quick tw7392212959928792091 for PySem.W.namesOk by Mine.nn
name_quick tw12635813782599140982 for PySem.W.namesOk by Mine.nn
name_quick tw10007627690174824804 for PySem.W.namesOk by Mine.nn
name_quick tw6380047634161181297 for PySem.W.namesOk by Mine.nn
name_quick tw7802139600951554647 for PySem.W.namesOk by Mine.nn
name_quick tw13642483538084851733 for PySem.W.namesOk by Mine.nn
name_quick tw13471461260053382970 for PySem.W.namesOk by Mine.nn
name_quick tw14224011070414065920 for PySem.W.namesOk by Mine.nn
name_quick tw15195428891847259777 for PySem.W.namesOk by Mine.nn
name_quick tw8642067239939848140 for PySem.W.namesOk by Mine.nn
name_quick tw11186114360453789277 for PySem.W.namesOk by Mine.nn
name_quick tw6792406925840432001 for PySem.W.namesOk by Mine.nn
name_quick tw3386650904741475044 for PySem.W.namesOk by Mine.nn
name_quick tw16947794391021106201 for PySem.W.namesOk by Mine.nn
name_quick tw12825359941727978080 for PySem.W.namesOk by Mine.nn
name_quick tw2460228577881660442 for PySem.W.namesOk by Mine.nn
name_quick tw3470799630455053000 for PySem.W.namesOk by Mine.nn
name_quick tw9676229304581654039 for PySem.W.namesOk by Mine.nn
name_quick tw4172830789200971933 for PySem.W.namesOk by Mine.nn
name_quick tw10073347824450446311 for PySem.W.namesOk by Mine.nn
name_quick tw7585139358526817783 for PySem.W.namesOk by Mine.nn
name_quick tw17001327861769816259 for PySem.W.namesOk by Mine.nn
name_quick tw16180582048198870337 for PySem.W.namesOk by Mine.nn
name_quick tw1763209079605825380 for PySem.W.namesOk by Mine.nn
name_quick tw878741703135273975 for PySem.W.namesOk by Mine.nn
name_quick tw12850107946570832962 for PySem.W.namesOk by Mine.nn
name_quick tw4748654258956052638 for PySem.W.namesOk by Mine.nn
name_quick tw1333364371103165705 for PySem.W.namesOk by Mine.nn
name_quick tw325292655437039998 for PySem.W.namesOk by Mine.nn
name_quick tw17532718790514356516 for PySem.W.namesOk by Mine.nn
name_quick tw12945451867199242903 for PySem.W.namesOk by Mine.nn
name_quick tw1377046205977697930 for PySem.W.namesOk by Mine.nn
name_quick tw682011567655089306 for PySem.W.namesOk by Mine.nn
name_quick tw5518745428033880147 for PySem.W.namesOk by Mine.nn
name_quick tw16644606511662114574 for PySem.W.namesOk by Mine.nn
name_quick tw13559156169165276386 for PySem.W.namesOk by Mine.nn
name_quick tw14023627001141898710 for PySem.W.namesOk by Mine.nn
name_quick tw9305782018832362445 for PySem.W.namesOk by Mine.nn
name_quick tw11277716924127702174 for PySem.W.namesOk by Mine.nn
name_quick tw14973007898608030118 for PySem.W.namesOk by Mine.nn
name_quick tw3039592710220408265 for PySem.W.namesOk by Mine.nn
name_quick tw13615603153576403970 for PySem.W.namesOk by Mine.nn
name_quick tw7035115661146626270 for PySem.W.namesOk by Mine.nn
name_quick tw13809362725867891129 for PySem.W.namesOk by Mine.nn
name_quick tw3856783459128436802 for PySem.W.namesOk by Mine.nn
name_quick tw2447775223705975068 for PySem.W.namesOk by Mine.nn
name_quick tw2902314222560053993 for PySem.W.namesOk by Mine.nn
name_quick tw6426273055680023932 for PySem.W.namesOk by Mine.nn
name_quick tw2951486255847992690 for PySem.W.namesOk by Mine.nn
name_quick tw9300948228871686676 for PySem.W.namesOk by Mine.nn
name_quick tw4434333111790514575 for PySem.W.namesOk by Mine.nn
name_quick tw2948108419219029167 for PySem.W.namesOk by Mine.nn
name_quick tw1184552218554016812 for PySem.W.namesOk by Mine.nn
name_quick tw16531745337717519161 for PySem.W.namesOk by Mine.nn
name_quick tw4797165386629745026 for PySem.W.namesOk by Mine.nn
name_quick tw7275051467321613617 for PySem.W.namesOk by Mine.nn
name_quick tw151948405760981731 for PySem.W.namesOk by Mine.nn
name_quick tw14530364306720264245 for PySem.W.namesOk by Mine.nn
name_quick tw1041845030581493396 for PySem.W.namesOk by Mine.nn
name_quick tw11853533878840232495 for PySem.W.namesOk by Mine.nn
name_quick tw11790162104776037713 for PySem.W.namesOk by Mine.nn
name_quick tw6213141578215901147 for PySem.W.namesOk by Mine.nn
name_quick tw18101931140130867144 for PySem.W.namesOk by Mine.nn
name_quick tw15278061642289888581 for PySem.W.namesOk by Mine.nn
name_quick tw11863081143760314161 for PySem.W.namesOk by Mine.nn
name_quick tw16437185098154296904 for PySem.W.namesOk by Mine.nn
name_quick tw219737044198020058 for PySem.W.namesOk by Mine.nn
name_quick tw14073706353221006472 for PySem.W.namesOk by Mine.nn
name_quick tw15560853006256673968 for PySem.W.namesOk by Mine.nn
name_quick tw505943868828395459 for PySem.W.namesOk by Mine.nn
name_quick tw17100903815162463580 for PySem.W.namesOk by Mine.nn
name_quick tw18416463498863911781 for PySem.W.namesOk by Mine.nn
name_quick tw4681523508651956083 for PySem.W.namesOk by Mine.nn
name_quick tw721709456127091705 for PySem.W.namesOk by Mine.nn
name_quick tw12393455550290869266 for PySem.W.namesOk by Mine.nn
name_quick tw8400853705098224536 for PySem.W.namesOk by Mine.nn
name_quick tw18345786424863182364 for PySem.W.namesOk by Mine.nn
name_quick tw6363645014702824404 for PySem.W.namesOk by Mine.nn
name_quick tw1320183511955256522 for PySem.W.namesOk by Mine.nn
name_quick tw667198328695590252 for PySem.W.namesOk by Mine.nn
name_quick tw15823609455315575823 for PySem.W.namesOk by Mine.nn
name_quick tw16296994325663420285 for PySem.W.namesOk by Mine.nn
name_quick tw17244072584429378644 for PySem.W.namesOk by Mine.nn
name_quick tw6059929106960060952 for PySem.W.namesOk by Mine.nn
name_quick tw5248340912204065574 for PySem.W.namesOk by Mine.nn
name_quick tw3766158894648301139 for PySem.W.namesOk by Mine.nn
name_quick tw13981391230805400906 for PySem.W.namesOk by Mine.nn
name_quick tw4525517667737911620 for PySem.W.namesOk by Mine.nn
name_quick tw5032809538720368765 for PySem.W.namesOk by Mine.nn
name_quick tw9979284746773624096 for PySem.W.namesOk by Mine.nn
name_quick tw6711915476519705758 for PySem.W.namesOk by Mine.nn
name_quick tw14326252917377295143 for PySem.W.namesOk by Mine.nn
name_quick tw1735497430108182060 for PySem.W.namesOk by Mine.nn
name_quick tw13314330512976039754 for PySem.W.namesOk by Mine.nn
name_quick tw6654550962395885724 for PySem.W.namesOk by Mine.nn
name_quick tw5068434257544371817 for PySem.W.namesOk by Mine.nn
name_quick tw3424931102881643321 for PySem.W.namesOk by Mine.nn
name_quick tw8989982439271903415 for PySem.W.namesOk by Mine.nn
name_quick tw15542503528162795033 for PySem.W.namesOk by Mine.nn
name_quick tw14778209649434054790 for PySem.W.namesOk by Mine.nn
name_quick tw17394056326795013819 for PySem.W.namesOk by Mine.nn
name_quick tw14112274594779413971 for PySem.W.namesOk by Mine.nn
name_quick tw15902184279288820625 for PySem.W.namesOk by Mine.nn
name_quick tw4921902886906138986 for PySem.W.namesOk by Mine.nn
name_quick tw5189142188285759775 for PySem.W.namesOk by Mine.nn
name_quick tw16439824349840649037 for PySem.W.namesOk by Mine.nn
name_quick tw14553827428707814869 for PySem.W.namesOk by Mine.nn
name_quick tw8424611434330503625 for PySem.W.namesOk by Mine.nn
name_quick tw14834023430324568649 for PySem.W.namesOk by Mine.nn
name_quick tw16241802466949684156 for PySem.W.namesOk by Mine.nn
name_quick tw16049961110935095269 for PySem.W.namesOk by Mine.nn
name_quick tw10487160056961263569 for PySem.W.namesOk by Mine.nn
name_quick tw10424941004445345732 for PySem.W.namesOk by Mine.nn
name_quick tw9467589175468403638 for PySem.W.namesOk by Mine.nn
name_quick tw17765544955259793912 for PySem.W.namesOk by Mine.nn
name_quick tw17341736924252097559 for PySem.W.namesOk by Mine.nn
name_quick tw7323676302269181137 for PySem.W.namesOk by Mine.nn
name_quick tw14305139224198610471 for PySem.W.namesOk by Mine.nn
name_quick tw18350330562280901221 for PySem.W.namesOk by Mine.nn
name_quick tw12268644228514654432 for PySem.W.namesOk by Mine.nn
name_quick tw7745614565497352828 for PySem.W.namesOk by Mine.nn
name_quick tw18056578402003937789 for PySem.W.namesOk by Mine.nn
name_quick tw10029231156530900338 for PySem.W.namesOk by Mine.nn
name_quick tw5978237884098788730 for PySem.W.namesOk by Mine.nn
name_quick tw1092655722715705105 for PySem.W.namesOk by Mine.nn
name_quick tw16817318245366136608 for PySem.W.namesOk by Mine.nn
name_quick tw3282434896037501709 for PySem.W.namesOk by Mine.nn
name_quick tw392140993173905013 for PySem.W.namesOk by Mine.nn
name_quick tw10833955939284561965 for PySem.W.namesOk by Mine.nn
name_quick tw13317431791736044220 for PySem.W.namesOk by Mine.nn
name_quick tw2958062672499776758 for PySem.W.namesOk by Mine.nn
name_quick tw3152983702415266003 for PySem.W.namesOk by Mine.nn
name_quick tw17000458434675057986 for PySem.W.namesOk by Mine.nn
name_quick tw11740888236361828772 for PySem.W.namesOk by Mine.nn
name_quick tw12233582284571471492 for PySem.W.namesOk by Mine.nn
name_quick tw608726401823008365 for PySem.W.namesOk by Mine.nn
name_quick tw7788680626742099145 for PySem.W.namesOk by Mine.nn
name_quick tw8860024209350480642 for PySem.W.namesOk by Mine.nn
name_quick tw17954471519018878134 for PySem.W.namesOk by Mine.nn
name_quick tw13912434898499826684 for PySem.W.namesOk by Mine.nn
name_quick tw8579058602437062094 for PySem.W.namesOk by Mine.nn
name_quick tw2670528217467546775 for PySem.W.namesOk by Mine.nn
name_quick tw2001226814458364393 for PySem.W.namesOk by Mine.nn
name_quick tw18211773271919218964 for PySem.W.namesOk by Mine.nn
name_quick tw15806122291839087668 for PySem.W.namesOk by Mine.nn
name_quick tw12832477231654346042 for PySem.W.namesOk by Mine.nn
name_quick tw7650934615059315214 for PySem.W.namesOk by Mine.nn
name_quick tw7098571738820278039 for PySem.W.namesOk by Mine.nn
name_quick tw5345256250457102556 for PySem.W.namesOk by Mine.nn
name_quick tw9759809726879904816 for PySem.W.namesOk by Mine.nn
name_quick tw11462045893675790159 for PySem.W.namesOk by Mine.nn
name_quick tw6662432510661729299 for PySem.W.namesOk by Mine.nn
name_quick tw9011979029575296479 for PySem.W.namesOk by Mine.nn
name_quick tw13036272033356848781 for PySem.W.namesOk by Mine.nn
name_quick tw7276740287692124622 for PySem.W.namesOk by Mine.nn
name_quick tw4090926877573551719 for PySem.W.namesOk by Mine.nn
name_quick tw932993149863042379 for PySem.W.namesOk by Mine.nn
name_quick tw11729385059970357855 for PySem.W.namesOk by Mine.nn
name_quick tw6929956602132211858 for PySem.W.namesOk by Mine.nn
name_quick tw11566699232636054958 for PySem.W.namesOk by Mine.nn
name_quick tw13640514254501968386 for PySem.W.namesOk by Mine.nn
name_quick tw347637069881736656 for PySem.W.namesOk by Mine.nn
name_quick tw16548257151911338427 for PySem.W.namesOk by Mine.nn
name_quick tw15079194523842364033 for PySem.W.namesOk by Mine.nn
name_quick tw18350638575300117064 for PySem.W.namesOk by Mine.nn
name_quick tw8595292554425487202 for PySem.W.namesOk by Mine.nn
name_quick tw13759679279233594173 for PySem.W.namesOk by Mine.nn
name_quick tw17988542015724977305 for PySem.W.namesOk by Mine.nn
name_quick tw10706342367453228570 for PySem.W.namesOk by Mine.nn
name_quick tw8708707556590381134 for PySem.W.namesOk by Mine.nn
name_quick tw4407734736301137906 for PySem.W.namesOk by Mine.nn
name_quick tw1419416864934026935 for PySem.W.namesOk by Mine.nn
name_quick tw1355338860687761863 for PySem.W.namesOk by Mine.nn
name_quick tw2862820112641550484 for PySem.W.namesOk by Mine.nn
name_quick tw15007238320947547705 for PySem.W.namesOk by Mine.nn
name_quick tw939094488619143285 for PySem.W.namesOk by Mine.nn
name_quick tw1503297043503765363 for PySem.W.namesOk by Mine.nn
name_quick tw1145845241644347369 for PySem.W.namesOk by Mine.nn
name_quick tw2334299552400917057 for PySem.W.namesOk by Mine.nn
name_quick tw10314498396905981064 for PySem.W.namesOk by Mine.nn
name_quick tw12821735335276811757 for PySem.W.namesOk by Mine.nn
name_quick tw17537794083376710389 for PySem.W.namesOk by Mine.nn
name_quick tw12224578244612797663 for PySem.W.namesOk by Mine.nn
name_quick tw2378363196638174374 for PySem.W.namesOk by Mine.nn
name_quick tw16966814322356759819 for PySem.W.namesOk by Mine.nn
name_quick tw13776390136698705113 for PySem.W.namesOk by Mine.nn
name_quick tw8253183596043897158 for PySem.W.namesOk by Mine.nn
name_quick tw11161088081135249708 for PySem.W.namesOk by Mine.nn
name_quick tw17274371674624000324 for PySem.W.namesOk by Mine.nn
name_quick tw12635297910168745909 for PySem.W.namesOk by Mine.nn
name_quick tw13016732220969518872 for PySem.W.namesOk by Mine.nn
name_quick tw8902219603052485911 for PySem.W.namesOk by Mine.nn
name_quick tw1706496860858754268 for PySem.W.namesOk by Mine.nn
name_quick tw8719427161674164953 for PySem.W.namesOk by Mine.nn
name_quick tw10010936943081839664 for PySem.W.namesOk by Mine.nn
name_quick tw17730448691065144110 for PySem.W.namesOk by Mine.nn
name_quick tw13254397897704925713 for PySem.W.namesOk by Mine.nn
name_quick tw17018628822417861297 for PySem.W.namesOk by Mine.nn
name_quick tw13215998728584607739 for PySem.W.namesOk by Mine.nn
name_quick tw1218959903707654005 for PySem.W.namesOk by Mine.nn
name_quick tw10948738476641704880 for PySem.W.namesOk by Mine.nn
name_quick tw2478078296215019888 for PySem.W.namesOk by Mine.nn
name_quick tw4558998842232669794 for PySem.W.namesOk by Mine.nn
name_quick tw15066959818950650227 for PySem.W.namesOk by Mine.nn
name_quick tw17828083071136270317 for PySem.W.namesOk by Mine.nn
name_quick tw12329403913580668285 for PySem.W.namesOk by Mine.nn
name_quick tw12659028871203227004 for PySem.W.namesOk by Mine.nn
name_quick tw183835017167291270 for PySem.W.namesOk by Mine.nn
name_quick tw11892598404827812706 for PySem.W.namesOk by Mine.nn
name_quick tw9931943479562821362 for PySem.W.namesOk by Mine.nn
name_quick tw5357591511691535388 for PySem.W.namesOk by Mine.nn
name_quick tw3094477031063562474 for PySem.W.namesOk by Mine.nn
name_quick tw17101871299007795629 for PySem.W.namesOk by Mine.nn
name_quick tw16874561944515371726 for PySem.W.namesOk by Mine.nn
name_quick tw10919533547850550483 for PySem.W.namesOk by Mine.nn
name_quick tw2315820567201803617 for PySem.W.namesOk by Mine.nn
name_quick tw5701610774189311196 for PySem.W.namesOk by Mine.nn
name_quick tw724751600484774222 for PySem.W.namesOk by Mine.nn
name_quick tw17532440430192770315 for PySem.W.namesOk by Mine.nn
name_quick tw9376109419431680627 for PySem.W.namesOk by Mine.nn
name_quick tw15423634916342008072 for PySem.W.namesOk by Mine.nn
name_quick tw2401699919119007470 for PySem.W.namesOk by Mine.nn
name_quick tw16869277618539721502 for PySem.W.namesOk by Mine.nn
name_quick tw10379131730601215995 for PySem.W.namesOk by Mine.nn
name_quick tw11957962974430299695 for PySem.W.namesOk by Mine.nn
name_quick tw6714822604882049554 for PySem.W.namesOk by Mine.nn
name_quick tw9948023125614773506 for PySem.W.namesOk by Mine.nn
name_quick tw6448080314894763839 for PySem.W.namesOk by Mine.nn
name_quick tw15450981722951097364 for PySem.W.namesOk by Mine.nn
name_quick tw9564595351457756722 for PySem.W.namesOk by Mine.nn
name_quick tw11939915149646268982 for PySem.W.namesOk by Mine.nn
name_quick tw15900120412870309639 for PySem.W.namesOk by Mine.nn
name_quick tw16494616584097029746 for PySem.W.namesOk by Mine.nn
name_quick tw4549333791460862111 for PySem.W.namesOk by Mine.nn
name_quick tw3880421473898291048 for PySem.W.namesOk by Mine.nn
name_quick tw16145008321745377990 for PySem.W.namesOk by Mine.nn
name_quick tw4039474712603431140 for PySem.W.namesOk by Mine.nn
name_quick tw11796506867022685745 for PySem.W.namesOk by Mine.nn
name_quick tw15112985482279097393 for PySem.W.namesOk by Mine.nn
name_quick tw15480198773659482676 for PySem.W.namesOk by Mine.nn
name_quick tw12392613427281201732 for PySem.W.namesOk by Mine.nn
name_quick tw3436264866546951355 for PySem.W.namesOk by Mine.nn
name_quick tw15034313371233782410 for PySem.W.namesOk by Mine.nn
name_quick tw8032284361305108907 for PySem.W.namesOk by Mine.nn
name_quick tw13987355940573415152 for PySem.W.namesOk by Mine.nn
name_quick tw16643379632663270332 for PySem.W.namesOk by Mine.nn
name_quick tw1829445100760108279 for PySem.W.namesOk by Mine.nn
name_quick tw1291980286583624508 for PySem.W.namesOk by Mine.nn
name_quick tw9151444980202551346 for PySem.W.namesOk by Mine.nn
name_quick tw16979880578912567463 for PySem.W.namesOk by Mine.nn
name_quick tw4302124980754421698 for PySem.W.namesOk by Mine.nn
name_quick tw11445135464325071761 for PySem.W.namesOk by Mine.nn
name_quick tw16593013826814733010 for PySem.W.namesOk by Mine.nn
name_quick tw11543547407058413889 for PySem.W.namesOk by Mine.nn
name_quick tw11788150170368784547 for PySem.W.namesOk by Mine.nn
name_quick tw1886563365779066154 for PySem.W.namesOk by Mine.nn
name_quick tw282004115355043989 for PySem.W.namesOk by Mine.nn
name_quick tw12371321757623732685 for PySem.W.namesOk by Mine.nn
name_quick tw189603312586018693 for PySem.W.namesOk by Mine.nn
name_quick tw3209381107111851631 for PySem.W.namesOk by Mine.nn
name_quick tw13526986893379352335 for PySem.W.namesOk by Mine.nn
name_quick tw2905824091091238844 for PySem.W.namesOk by Mine.nn
name_quick tw4071324889030633612 for PySem.W.namesOk by Mine.nn
name_quick tw136631920214876835 for PySem.W.namesOk by Mine.nn
name_quick tw12726346659333912481 for PySem.W.namesOk by Mine.nn
name_quick tw460243522976405022 for PySem.W.namesOk by Mine.nn
name_quick tw662354867322794072 for PySem.W.namesOk by Mine.nn
name_quick tw14311459727803291754 for PySem.W.namesOk by Mine.nn
name_quick tw16406328271908756883 for PySem.W.namesOk by Mine.nn
name_quick tw11964429278604863157 for PySem.W.namesOk by Mine.nn
name_quick tw18340240734955500558 for PySem.W.namesOk by Mine.nn
name_quick tw2611137233208623240 for PySem.W.namesOk by Mine.nn
name_quick tw6587116730350146372 for PySem.W.namesOk by Mine.nn
name_quick tw13002492023102617099 for PySem.W.namesOk by Mine.nn
name_quick tw5721027456603625697 for PySem.W.namesOk by Mine.nn
name_quick tw4319705520415482375 for PySem.W.namesOk by Mine.nn
name_quick tw9285146279643344392 for PySem.W.namesOk by Mine.nn
name_quick tw912392155897948271 for PySem.W.namesOk by Mine.nn
name_quick tw1537898542681612871 for PySem.W.namesOk by Mine.nn
name_quick tw14714103240675001986 for PySem.W.namesOk by Mine.nn
name_quick tw8450942572126056277 for PySem.W.namesOk by Mine.nn
name_quick tw2736616831223182526 for PySem.W.namesOk by Mine.nn
name_quick tw2422670821966735624 for PySem.W.namesOk by Mine.nn
name_quick tw3976722010076183465 for PySem.W.namesOk by Mine.nn
name_quick tw3093977132361051618 for PySem.W.namesOk by Mine.nn
name_quick tw7892128664451923741 for PySem.W.namesOk by Mine.nn
name_quick tw17164873540382356111 for PySem.W.namesOk by Mine.nn
name_quick tw6148621092414575339 for PySem.W.namesOk by Mine.nn
name_quick tw704327219915372674 for PySem.W.namesOk by Mine.nn
name_quick tw1638017585896720355 for PySem.W.namesOk by Mine.nn
name_quick tw607167704815816724 for PySem.W.namesOk by Mine.nn
name_quick tw9537544019596298400 for PySem.W.namesOk by Mine.nn
name_quick tw17552769576498331613 for PySem.W.namesOk by Mine.nn
name_quick tw8620020772036689432 for PySem.W.namesOk by Mine.nn
name_quick tw9951705424602377420 for PySem.W.namesOk by Mine.nn
name_quick tw4552823106982906706 for PySem.W.namesOk by Mine.nn
name_quick tw18260038339965228139 for PySem.W.namesOk by Mine.nn
name_quick tw14971970265804392439 for PySem.W.namesOk by Mine.nn
name_quick tw10996506086634736982 for PySem.W.namesOk by Mine.nn
name_quick tw5396446701170858492 for PySem.W.namesOk by Mine.nn
name_quick tw3972328310683599613 for PySem.W.namesOk by Mine.nn
name_quick tw6679490504615227074 for PySem.W.namesOk by Mine.nn
name_quick tw1204117194425446250 for PySem.W.namesOk by Mine.nn
name_quick tw11495947367809530248 for PySem.W.namesOk by Mine.nn
name_quick tw2968979199505139716 for PySem.W.namesOk by Mine.nn
name_quick tw14214133299417103183 for PySem.W.namesOk by Mine.nn
name_quick tw4936483359421988267 for PySem.W.namesOk by Mine.nn
name_quick tw9594665118957945026 for PySem.W.namesOk by Mine.nn
name_quick tw11707433790658880453 for PySem.W.namesOk by Mine.nn
name_quick tw441327347791068078 for PySem.W.namesOk by Mine.nn
name_quick tw9908251947323293946 for PySem.W.namesOk by Mine.nn
name_quick tw2922074901204462755 for PySem.W.namesOk by Mine.nn
name_quick tw12813236842856870187 for PySem.W.namesOk by Mine.nn
name_quick tw6135381517318000843 for PySem.W.namesOk by Mine.nn
name_quick tw1708024556718086227 for PySem.W.namesOk by Mine.nn
name_quick tw10670733350059645105 for PySem.W.namesOk by Mine.nn
name_quick tw11994158751524154303 for PySem.W.namesOk by Mine.nn
name_quick tw17520869792638436183 for PySem.W.namesOk by Mine.nn
name_quick tw951843321253372498 for PySem.W.namesOk by Mine.nn
name_quick tw9626621113073979434 for PySem.W.namesOk by Mine.nn
name_quick tw17517737089405305841 for PySem.W.namesOk by Mine.nn
name_quick tw14884601019740666482 for PySem.W.namesOk by Mine.nn
name_quick tw7397068168572129948 for PySem.W.namesOk by Mine.nn
name_quick tw10887116778572429059 for PySem.W.namesOk by Mine.nn
name_quick tw14210447440969649564 for PySem.W.namesOk by Mine.nn
name_quick tw14168537005229113720 for PySem.W.namesOk by Mine.nn
name_quick tw7496433998918960881 for PySem.W.namesOk by Mine.nn
name_quick tw6817277305950994716 for PySem.W.namesOk by Mine.nn
name_quick tw16349216596472256690 for PySem.W.namesOk by Mine.nn
name_quick tw17774800907425398282 for PySem.W.namesOk by Mine.nn
name_quick tw17913803186225011329 for PySem.W.namesOk by Mine.nn
name_quick tw11420187438672877268 for PySem.W.namesOk by Mine.nn
name_quick tw17069979004554194336 for PySem.W.namesOk by Mine.nn
name_quick tw14333388528381170442 for PySem.W.namesOk by Mine.nn
name_quick tw13915792640404377917 for PySem.W.namesOk by Mine.nn
name_quick tw11013792430000457035 for PySem.W.namesOk by Mine.nn
name_quick tw7299303143086499733 for PySem.W.namesOk by Mine.nn
name_quick tw2354101950205528012 for PySem.W.namesOk by Mine.nn
name_quick tw7365555872484859036 for PySem.W.namesOk by Mine.nn
name_quick tw9674257727999782656 for PySem.W.namesOk by Mine.nn
name_quick tw6683783046931543321 for PySem.W.namesOk by Mine.nn
name_quick tw9501820088010722379 for PySem.W.namesOk by Mine.nn
name_quick tw8727135674562949291 for PySem.W.namesOk by Mine.nn
name_quick tw313226197891681235 for PySem.W.namesOk by Mine.nn
name_quick tw2599325451414397859 for PySem.W.namesOk by Mine.nn
name_quick tw17434858337260393937 for PySem.W.namesOk by Mine.nn
name_quick tw10057510723706494237 for PySem.W.namesOk by Mine.nn
name_quick tw3315324234476444515 for PySem.W.namesOk by Mine.nn
name_quick tw470574548607681690 for PySem.W.namesOk by Mine.nn
name_quick tw8703263022893421829 for PySem.W.namesOk by Mine.nn
name_quick tw4011157648589011858 for PySem.W.namesOk by Mine.nn
name_quick tw6125931036764729998 for PySem.W.namesOk by Mine.nn
name_quick tw6434138532213402376 for PySem.W.namesOk by Mine.nn
name_quick tw16752143609539240740 for PySem.W.namesOk by Mine.nn
name_quick tw9862997608875712007 for PySem.W.namesOk by Mine.nn
name_quick tw5882768191206486792 for PySem.W.namesOk by Mine.nn
name_quick tw4980102563643897964 for PySem.W.namesOk by Mine.nn
name_quick tw7198390536060210744 for PySem.W.namesOk by Mine.nn
name_quick tw8693227569615203950 for PySem.W.namesOk by Mine.nn
name_quick tw5565278806992967083 for PySem.W.namesOk by Mine.nn
name_quick tw2660918139993853925 for PySem.W.namesOk by Mine.nn
name_quick tw14108194823987119177 for PySem.W.namesOk by Mine.nn
name_quick tw4636218855388986860 for PySem.W.namesOk by Mine.nn
name_quick tw10942035263794033107 for PySem.W.namesOk by Mine.nn
name_quick tw15323854079317868165 for PySem.W.namesOk by Mine.nn
name_quick tw12898947447245864913 for PySem.W.namesOk by Mine.nn
name_quick tw16414604833108395602 for PySem.W.namesOk by Mine.nn
name_quick tw13141144453892091621 for PySem.W.namesOk by Mine.nn
name_quick tw11588390666370768167 for PySem.W.namesOk by Mine.nn
name_quick tw14126943448341045398 for PySem.W.namesOk by Mine.nn
name_quick tw5200128776193632040 for PySem.W.namesOk by Mine.nn
name_quick tw13789449189825218787 for PySem.W.namesOk by Mine.nn
name_quick tw3118938333895590913 for PySem.W.namesOk by Mine.nn
name_quick tw6589095468515690095 for PySem.W.namesOk by Mine.nn
name_quick tw17730428716208468724 for PySem.W.namesOk by Mine.nn
name_quick tw7250012664060256230 for PySem.W.namesOk by Mine.nn
name_quick tw43969757491396457 for PySem.W.namesOk by Mine.nn
name_quick tw2719445374943340272 for PySem.W.namesOk by Mine.nn
name_quick tw15919542637913265678 for PySem.W.namesOk by Mine.nn
name_quick tw16792545251062261874 for PySem.W.namesOk by Mine.nn
name_quick tw15475462885187679331 for PySem.W.namesOk by Mine.nn
name_quick tw17024950926791866790 for PySem.W.namesOk by Mine.nn
name_quick tw3636048126100218174 for PySem.W.namesOk by Mine.nn
name_quick tw11270796479367742343 for PySem.W.namesOk by Mine.nn
name_quick tw11985326045990495214 for PySem.W.namesOk by Mine.nn
name_quick tw10500077913531017323 for PySem.W.namesOk by Mine.nn
name_quick tw5925582254088234700 for PySem.W.namesOk by Mine.nn
name_quick tw5732905514179830355 for PySem.W.namesOk by Mine.nn
name_quick tw8796240567053077481 for PySem.W.namesOk by Mine.nn
name_quick tw17863021456227041891 for PySem.W.namesOk by Mine.nn
name_quick tw15742981410569661332 for PySem.W.namesOk by Mine.nn
name_quick tw15168306246750427876 for PySem.W.namesOk by Mine.nn
name_quick tw17057272898397164401 for PySem.W.namesOk by Mine.nn
name_quick tw16655555454665732581 for PySem.W.namesOk by Mine.nn
name_quick tw3820604794100220378 for PySem.W.namesOk by Mine.nn
name_quick tw12835720964997663042 for PySem.W.namesOk by Mine.nn
name_quick tw9800571698397750058 for PySem.W.namesOk by Mine.nn
name_quick tw17846936440860909165 for PySem.W.namesOk by Mine.nn
name_quick tw7009043117176579089 for PySem.W.namesOk by Mine.nn
name_quick tw6434265647005701932 for PySem.W.namesOk by Mine.nn
name_quick tw16176465441171805009 for PySem.W.namesOk by Mine.nn
namespace Mine
set_option maxRecDepth 100000 in
set_option maxHeartbeats 8000000 in
open_top hd for PySem.Challenge.rw_ok0059_01
end Mine
end PHead59
section PPre
open PySem PySem.W PyProof.Rows PySem.Calls PySem.Spec
set_option maxRecDepth 100000
set_option maxHeartbeats 8000000
namespace Mine
abbrev PR := PySem.Challenge.rw_ok0059_01.row.toRowW.prog
noncomputable def defAt (n : Nat) : Option (List Stmt × Scope) := match PySem.Challenge.pw_ok0059_01.main.body[n]? with
  | some (.FunctionDef _ _ b _ _ _ sc _ _ _) => some (b, sc)
  | _ => none
noncomputable def lawBody : List Stmt := ((defAt 38).map (·.1)).getD []
noncomputable def lawScope : Scope := ((defAt 38).map (·.2)).getD default
noncomputable def lawS (k : Nat) : Stmt := lawBody.getD k (.Pass default)
theorem cut {M : Model} {A : Around} {E : Value → Shared → Prop} {s : Shared} {env : Env} {st : Stmt} {rest : List Stmt} {Q : Flow → Shared → Prop} (P : Shared → Prop)
    (h2 : wpAny M A (exec st env) (fun f s' => f = .next ∧ P s') E s)
    (h1 : ∀ s', P s' → wpAny M A (execs rest env) Q E s') : wpAny M A (execs (st :: rest) env) Q E s := by
  refine wpAny_execs_cons (wpAny_mono h2 (fun f s' hf => ?_) fun _ _ h => h)
  obtain ⟨rfl, hp⟩ := hf
  exact h1 s' hp
noncomputable abbrev lawA (L fa : Addr) (cd : Value) : Around := Around.deeper callerA (envOfC (Str.ofString "law") lawScope L fa cd)
noncomputable abbrev lawE (L fa : Addr) (cd : Value) : Env := envOfC (Str.ofString "law") lawScope L fa cd
theorem lt_in {l : List (Addr × Obj)} {a d : Addr} {o : Obj} (h : ∀ p ∈ l, p.1 < d) (m : (a, o) ∈ l) : @LT.lt Nat _ a d := h _ m
theorem ne_in1 {l : List (Addr × Obj)} {a d : Addr} {o : Obj} (h : ∀ p ∈ l, p.1 < d) (m : (a, o) ∈ l) : @Ne Nat a d := Nat.ne_of_lt (h _ m)
theorem ne_in2 {l : List (Addr × Obj)} {a d : Addr} {o : Obj} (h : ∀ p ∈ l, p.1 < d) (m : (a, o) ∈ l) : @Ne Nat d a := Nat.ne_of_gt (h _ m)
theorem ne_in3 {l : List (Addr × Obj)} {a d x : Addr} {o : Obj} (h : ∀ p ∈ l, p.1 < d) (m : (a, o) ∈ l) (e : @LT.lt Nat _ d x) : @Ne Nat x a := Nat.ne_of_gt (Nat.lt_trans (h _ m) e)
theorem ne_in4 {l : List (Addr × Obj)} {a d x : Addr} {o : Obj} (h : ∀ p ∈ l, p.1 < d) (m : (a, o) ∈ l) (e : @LT.lt Nat _ d x) : @Ne Nat a x := Nat.ne_of_lt (Nat.lt_trans (h _ m) e)
theorem all_in {l r : List (Addr × Obj)} {d : Addr} (h : ∀ p ∈ l, p.1 < d) (m : ∀ p ∈ r, p ∈ l) : ∀ p ∈ r, p.1 ≠ d := fun p hp => Nat.ne_of_lt (h p (m p hp))
theorem all_in3 {l r : List (Addr × Obj)} {d x : Addr} (h : ∀ p ∈ l, p.1 < d) (m : ∀ p ∈ r, p ∈ l) (e : @LT.lt Nat _ d x) : ∀ p ∈ r, p.1 ≠ x := fun p hp => Nat.ne_of_lt (Nat.lt_trans (h p (m p hp)) e)
theorem fill : (PySem.Challenge.rw_ok0059_01 = PySem.Challenge.rw_ok0059_01) ∧ (Mine.hd.heap_39 = Mine.hd.heap_39) := by k_fill; exact ⟨rfl, rfl⟩
end Mine
end PPre
section PDraw
open PySem PySem.W PyProof.Rows PySem.Calls PySem.Spec
set_option maxRecDepth 100000
set_option maxHeartbeats 8000000
namespace Mine
theorem fill_Draw : True := by w_top off; trivial
local macro_rules | `(tactic| k_room) => `(tactic| ktr_room)
local macro_rules | `(tactic| k_all) => `(tactic| assumption)
theorem draw_core {w : World} {loose : List Str} {mean : ExcName → Option Value} {mg mb : Str → Option Value} {dk di : Addr} {k many : Int} {n1 n2 : Nat} {tk1 tm : Tok} {vs : List Value} {ds : List Int} {rest : List (Addr × Obj)}
    {dp un : Nat} {gd : Option (List Code)} {cn : Str} {cs : Scope} {a : Addr} {ccd : Value} {cl : List (Str × Addr)} {outer : List Env} {A₀ : Around} {base h₀ : Heap} {L : Addr} {m : Str → Option Value} {s : Shared} {Q E : Value → Shared → Prop}
    (B : Below A₀ base outer h₀) (F : Fr h₀ L s.heap m) (X : (Mine.hd.heap_39 w.params).In h₀) (N : News h₀ L s.heap ((dk, listOf #[.ref di, .int k tk1] n1) :: (di, listOf vs.toArray n2) :: rest)) (T : Top Mine.hd.view_39 loose mean mg mb h₀) (hk : cs.kind = .function)
    (hdi : @Ne Nat di dk) (hrest : ∀ p ∈ rest, p.1 ≠ dk)
    (hk0 : 0 ≤ k) (hk1 : k < 100) (hm : 0 < many) (hm' : many < 100) (hI : IntsAre vs ds) (hlen : ds.length ≤ 63)
    (hd : dp + 1 < recursionLimit)
    (hret : ∀ (r : Int) t h' tk' t2, 0 ≤ r → r < many → Fr h₀ L h' m → News h₀ L h' ((dk, listOf #[.ref di, .int (k + 1) t2] n1) :: (di, listOf vs.toArray n2) :: rest) → Q (.int r t) { s with heap := h', toks := tk' }) :
      wpAny (model PR w) (ktrTop dp un gd cn cs L a ccd cl outer) (call (.ref 475) [.ref dk, .int many tm]) Q E s := by
  refine wpAny_call ?_
  k_dflt cell_enter
  k_steps
  · exact hret _ _ _ _ _ (Int.fmod_nonneg_of_pos _ hm) (Int.fmod_lt_of_pos _ hm) (by assumption) (by assumption)
  · exact hret _ _ _ _ _ (Int.fmod_nonneg_of_pos _ hm) (Int.fmod_lt_of_pos _ hm) (by assumption) (by assumption)
theorem draw_use {w : World} {loose : List Str} {mean : ExcName → Option Value} {mg mb : Str → Option Value} {dk di : Addr} {k many : Int} {n1 n2 : Nat} {tk1 tm : Tok} {vs : List Value} {ds : List Int} {news : List (Addr × Obj)}
    {dp un : Nat} {gd : Option (List Code)} {cn : Str} {cs : Scope} {a : Addr} {ccd : Value} {cl : List (Str × Addr)} {outer : List Env} {A₀ : Around} {base h₀ : Heap} {L : Addr} {m : Str → Option Value} {s : Shared} {Q E : Value → Shared → Prop}
    (B : Below A₀ base outer h₀) (F : Fr h₀ L s.heap m) (X : (Mine.hd.heap_39 w.params).In h₀) (N : News h₀ L s.heap news) (T : Top Mine.hd.view_39 loose mean mg mb h₀) (hk : cs.kind = .function)
    (h1 : (dk, listOf #[.ref di, .int k tk1] n1) ∈ news) (h2 : (di, listOf vs.toArray n2) ∈ news) (hdi : @Ne Nat di dk)
    (hk0 : 0 ≤ k) (hk1 : k < 100) (hm : 0 < many) (hm' : many < 100) (hI : IntsAre vs ds) (hlen : ds.length ≤ 63)
    (hd : dp + 1 < recursionLimit)
    (hret : ∀ (r : Int) t h' tk' t2, 0 ≤ r → r < many → Fr h₀ L h' m → (∀ news', Upd dk (listOf #[.ref di, .int k tk1] n1) (listOf #[.ref di, .int (k + 1) t2] n1) news news' → News h₀ L h' news') → Q (.int r t) { s with heap := h', toks := tk' }) :
      wpAny (model PR w) (ktrTop dp un gd cn cs L a ccd cl outer) (call (.ref 475) [.ref dk, .int many tm]) Q E s := by
  refine draw_core (tk1 := tk1) (n1 := n1) (n2 := n2) (vs := vs) (rest := news.filter fun p => p.1 ≠ dk) B F X ?_ T hk hdi ?_ hk0 hk1 hm hm' hI hlen hd ?_
  · intro p hp
    rcases List.mem_cons.mp hp with rfl | hp
    · exact N _ h1
    · rcases List.mem_cons.mp hp with rfl | hp
      · exact N _ h2
      · exact N _ (List.mem_filter.mp hp).1
  · intro p hp
    simpa using (List.mem_filter.mp hp).2
  · intro r t h' tk' t2 a1 a2 F' N'
    refine hret r t h' tk' t2 a1 a2 F' fun news' U => ?_
    obtain ⟨pre, post, e1, e2, a, b⟩ := U.split
    subst e1 e2
    intro p hp
    rcases List.mem_append.mp hp with hp | hp
    · exact N' _ (.tail _ (.tail _ (List.mem_filter.mpr ⟨List.mem_append.mpr (.inl hp), by simpa using a p hp⟩)))
    · rcases List.mem_cons.mp hp with rfl | hp
      · exact N' _ (.head _)
      · exact N' _ (.tail _ (.tail _ (List.mem_filter.mpr ⟨List.mem_append.mpr (.inr (.tail _ hp)), by simpa using b p hp⟩)))
end Mine
end PDraw
section PBuf
open PySem PySem.W PyProof.Rows PySem.Calls PySem.Spec
namespace Mine
abbrev en (P : Params) (n : String) (t : Tok) (v : Value) : DictEntry := { hash := PyData.keyHash P (Str.ofString n), key := .str (Str.ofString n) t, val := v }
abbrev bufD (P : Params) (t u : Nat → Tok) (nm : Str) (tx mk ls : Addr) (pt bg zv c1 c2 : Int) : List DictEntry :=
  [en P "number" (t 0) (.int 1 (u 0)), en P "name" (t 1) (.str nm (u 1)), en P "text" (t 2) (.ref tx), en P "markers" (t 3) (.ref mk), en P "point" (t 4) (.int pt (u 4)), en P "begv" (t 5) (.int bg (u 5)),
   en P "zv" (t 6) (.int zv (u 6)), en P "mark" (t 7) .none, en P "is_live" (t 8) (.bool true), en P "is_read_only" (t 9) (.bool false), en P "ticks" (t 10) (.int c1 (u 10)), en P "codes_ticks" (t 11) (.int c2 (u 11)), en P "saved_ticks" (t 12) (.int 1 (u 12)),
   en P "listeners" (t 13) (.ref ls), en P "undo" (t 14) .none, en P "props" (t 15) .none, en P "overlays" (t 16) .none, en P "locals" (t 17) .none, en P "syntax" (t 18) .none, en P "file" (t 19) .none]
abbrev gapD (P : Params) (t u : Nat → Tok) (lc : Addr) (g1 g2 : Int) : List DictEntry :=
  [en P "room" (t 0) (.int 8 (u 0)), en P "cells" (t 1) (.ref lc), en P "gap_start" (t 2) (.int g1 (u 2)), en P "gap_end" (t 3) (.int g2 (u 3))]
abbrev mrkD (P : Params) (t : Tok) (dr : Addr) : List DictEntry := [en P "rows" t (.ref dr)]
end Mine
end PBuf
section PPut
open PySem PySem.W PyProof.Rows PySem.Calls PySem.Spec
namespace Mine
abbrev up (u : Nat → Tok) (i : Nat) (t : Tok) : Nat → Tok := fun j => if j = i then t else u j
section
variable {P : Params} {tt uu : Nat → Tok} {nm : Str} {tx mk lr : Addr} {pt bg zv c1 c2 v : Int} {hs : Int} {t t0 : Tok}
theorem put_pt : (putL (Str.ofString "point") (PyData.keyHash P (Str.ofString "point")) (.str (Str.ofString "point") t0) (.int v t) (bufD P tt uu nm tx mk lr pt bg zv c1 c2), putN (Str.ofString "point") (bufD P tt uu nm tx mk lr pt bg zv c1 c2) 20) = (bufD P tt (up uu 4 t) nm tx mk lr v bg zv c1 c2, 20) := rfl
theorem put_bg : (putL (Str.ofString "begv") (PyData.keyHash P (Str.ofString "begv")) (.str (Str.ofString "begv") t0) (.int v t) (bufD P tt uu nm tx mk lr pt bg zv c1 c2), putN (Str.ofString "begv") (bufD P tt uu nm tx mk lr pt bg zv c1 c2) 20) = (bufD P tt (up uu 5 t) nm tx mk lr pt v zv c1 c2, 20) := rfl
theorem put_zv : (putL (Str.ofString "zv") (PyData.keyHash P (Str.ofString "zv")) (.str (Str.ofString "zv") t0) (.int v t) (bufD P tt uu nm tx mk lr pt bg zv c1 c2), putN (Str.ofString "zv") (bufD P tt uu nm tx mk lr pt bg zv c1 c2) 20) = (bufD P tt (up uu 6 t) nm tx mk lr pt bg v c1 c2, 20) := rfl
theorem put_c1 : (putL (Str.ofString "ticks") (PyData.keyHash P (Str.ofString "ticks")) (.str (Str.ofString "ticks") t0) (.int v t) (bufD P tt uu nm tx mk lr pt bg zv c1 c2), putN (Str.ofString "ticks") (bufD P tt uu nm tx mk lr pt bg zv c1 c2) 20) = (bufD P tt (up uu 10 t) nm tx mk lr pt bg zv v c2, 20) := rfl
theorem put_c2 : (putL (Str.ofString "codes_ticks") (PyData.keyHash P (Str.ofString "codes_ticks")) (.str (Str.ofString "codes_ticks") t0) (.int v t) (bufD P tt uu nm tx mk lr pt bg zv c1 c2), putN (Str.ofString "codes_ticks") (bufD P tt uu nm tx mk lr pt bg zv c1 c2) 20) = (bufD P tt (up uu 11 t) nm tx mk lr pt bg zv c1 v, 20) := rfl
end
end Mine
end PPut
section PSetSl
open PySem PySem.W PyProof.Rows PySem.Calls PySem.Spec
set_option maxRecDepth 100000
set_option maxHeartbeats 8000000
namespace Mine
section
variable {prog : Program} {w : World} {A : Around} {E : Value → Shared → Prop} {s : Shared} {h₀ : Heap} {L : Addr} {m : Str → Option Value} {news news' : List (Addr × Obj)}

theorem bounds_in {lo hi : Int} {n : Nat} (h0 : 0 ≤ lo) (h1 : lo ≤ hi) (h2 : hi ≤ n) : sliceBounds (some lo) (some hi) none n = (lo, hi, 1) := by
  have e1 : ¬ lo < 0 := by omega
  have e2 : ¬ hi < 0 := by omega
  show (max 0 (min (if lo < 0 then lo + n else lo) n), max 0 (min (if hi < 0 then hi + n else hi) n), (1 : Int)) = _
  rw [if_neg e1, if_neg e2]
  congr 1
  · omega
  · congr 1; omega

theorem setSlice_at {l sl lv : Addr} {its new : Array Value} {n : Nat} {lo hi : Int} {t1 t2 : Tok} {Q : Unit → Shared → Prop}
    (ho : s.heap.get? l = some (listOf its n)) (hs : s.heap.IsSliceOf sl (.int lo t1) (.int hi t2) .none) (hv : s.heap.IsList lv new)
    (hne : lv ≠ l) (h0 : 0 ≤ lo) (h1 : lo ≤ hi) (h2 : hi ≤ its.size) (hsz : its.size + new.size ≤ sizeLine)
    (h : Q () { s with heap := s.heap.update l (Obj.mapSeq fun xs => xs.extract 0 lo.toNat ++ new ++ xs.extract (max lo hi).toNat xs.size) }) :
    wpAny (model prog w) A (setItem (.ref l) (.ref sl) (.ref lv)) Q E s := by
  have hl : s.heap.IsList l its := PySem.IsL.isList (n := n) ho
  obtain ⟨os, hos, hcs, hds⟩ := id hs
  have hTs : s.TypeIs (.ref sl) "slice" := ⟨os, hos, hcs⟩
  unfold setItem
  try with_reducible refine wpAny_holding ?_
  first | refine wpAny_bind (wpAny_pure ?_) | skip
  refine wpAny_bind (wpAny_sequenceKey hl.typeIs (by decide) ?_)
  refine wpAny_bind (wpAny_callSpecial?_slot (name := Str.ofString "__setitem__") hl.typeIs slot_list_setitem
    (wpAny_call_entry slot_list_setitem hl.typeIs entry_list_setitem ?_ (args_list_setitem _ _ _)))
  show wpAny _ _ (Builtin.List.listSubscript? (.ref sl) >>= _) _ _ s
  refine wpAny_bind ?_
  unfold Builtin.List.listSubscript?
  refine wpAny_bind (wpAny_specialOf hTs slice_no_index ?_)
  simp only [Option.isNone_none, if_true]
  refine wpAny_pure ?_
  show wpAny _ _ (typeOf (.ref sl) >>= _) _ _ s
  refine wpAny_bind (wpAny_typeOf hTs ?_)
  rw [if_neg (by decide)]
  rw [listSliceParts_eq]
  refine wpAny_bind (wpAny_bind (wpAny_field hos hds (x := .none) rfl (wpAny_bind (wpAny_listPart .none ?_))))
  rw [if_neg (by decide)]
  refine wpAny_bind (wpAny_field hos hds (x := .int lo t1) rfl (wpAny_bind (wpAny_listPart (.int _ _) ?_)))
  refine wpAny_bind (wpAny_field hos hds (x := .int hi t2) rfl (wpAny_bind (wpAny_listPart (.int _ _) (wpAny_pure ?_))))
  obtain ⟨ov, hov, hcv, nv, hdv⟩ := id hv
  have hsame : Builtin.List.listSameRef (.ref l) (.ref lv) = false := by
    show (l == lv) = false
    simpa using Ne.symm hne
  rw [hsame]
  rw [if_neg (by decide)]
  refine wpAny_bind ?_
  unfold Builtin.List.listAllItems
  refine wpAny_bind (wpAny_typeOf hv.typeIs ?_)
  rw [if_pos (by rfl)]
  unfold Builtin.List.listItems
  refine wpAny_bind (wpAny_seqItems hov hdv (wpAny_pure ?_))
  refine wpAny_bind (wpAny_bind (wpAny_seqItems ho rfl (wpAny_pure ?_)))
  refine wpAny_bind (wpAny_of_eq (sliceIndices_raw (some lo) (some hi) none its.size (by decide)) ?_)
  rw [bounds_in h0 h1 h2]
  dsimp only
  rw [if_pos (by rfl)]
  refine wpAny_bind (wpAny_rule ?_)
  rw [if_neg (by simp only [Builtin.List.listTooLong]; simpa using hsz)]
  refine wpAny_bind (listUpdate_at ho rfl ?_ (by omega) ?_)
  · refine wpAny_bind (wpAny_letGo ?_)
    first
      | exact wpAny_bind (wpAny_pure (wpAny_pure ⟨.none, rfl, wpAny_pure h⟩))
      | exact wpAny_pure ⟨.none, rfl, wpAny_pure h⟩
  · simp only [Array.size_append, Array.size_extract]
    omega

theorem setSlice_K {D sl lv : Addr} {its new : Array Value} {n : Nat} {lo hi : Int} {t1 t2 : Tok} {its' : Array Value} {n' : Nat} {Q : Unit → Shared → Prop}
    (F : Fr h₀ L s.heap m) (N : News h₀ L s.heap news) (hs : s.heap.IsSliceOf sl (.int lo t1) (.int hi t2) .none) (hv : s.heap.IsList lv new)
    (U : Upd D (listOf its n) (listOf its' n') news news')
    (hne : @Ne Nat lv D) (h0 : 0 ≤ lo) (h1 : lo ≤ hi) (h2 : hi ≤ its.size) (hsz : its.size + new.size ≤ sizeLine)
    (e : its.extract 0 lo.toNat ++ new ++ its.extract hi.toNat its.size = its') (en : (if its'.size == its.size then n else n + 1) = n')
    (h : ∀ h', Fr h₀ L h' m → News h₀ L h' news' → Q () { s with heap := h' }) : wpAny (model prog w) A (setItem (.ref D) (.ref sl) (.ref lv)) Q E s := by
  obtain ⟨pre, post, rfl, rfl, a, b⟩ := U.split
  have z := N (D, listOf its n) (List.mem_append.mpr (.inr (.head _)))
  refine setSlice_at z.1 hs hv hne h0 h1 h2 hsz (h _ (F.change (Heap.SameBut.update ..) z.2.1 z.2.2) (ki_turn _ N a b ?_ en))
  rw [Int.max_eq_right h1]
  exact e

abbrev slObj (lo hi : Int) (t1 t2 : Tok) : Obj := { cls := .type "slice", data := .fields #[.int lo t1, .int hi t2, .none] }
section
variable {h : Heap} {g : Array GenState} {dr : Drawn} {tk : Nat} {o : OsState} {D lv : Addr} {vs ws : List Value} {zi wi : List Int} {n nw : Nat} {lo hi : Int} {t1 t2 : Tok} {Q : Unit → Shared → Prop}
theorem ints_take : ∀ {vs : List Value} {ns : List Int}, IntsAre vs ns → ∀ k, IntsAre (vs.take k) (ns.take k)
  | _, _, .nil, k => by rw [List.take_nil, List.take_nil]; exact .nil
  | _, _, .cons _ _ h, 0 => .nil
  | _, _, .cons i t h, k + 1 => .cons i t (ints_take h k)
theorem ints_drop : ∀ {vs : List Value} {ns : List Int}, IntsAre vs ns → ∀ k, IntsAre (vs.drop k) (ns.drop k)
  | _, _, .nil, k => by rw [List.drop_nil, List.drop_nil]; exact .nil
  | _, _, .cons i t h, 0 => .cons i t h
  | _, _, .cons i t h, k + 1 => ints_drop h k
theorem ints_app : ∀ {vs ws : List Value} {ns ms : List Int}, IntsAre vs ns → IntsAre ws ms → IntsAre (vs ++ ws) (ns ++ ms)
  | _, _, _, _, .nil, k => k
  | _, _, _, _, .cons i t h, k => .cons i t (ints_app h k)

/-- xs[k:k] = []: the list stays -/
theorem setSlice_none (F : Fr h₀ L h m) (N : News h₀ L h news) (hv : IntsAre vs zi) (hw : IntsAre ws wi) (hm : (D, listOf vs.toArray n) ∈ news) (hm2 : (lv, listOf ws.toArray nw) ∈ news)
    (hne : @Ne Nat lv D) (hz : wi.length = 0) (hz2 : zi.length ≤ 100) (h0 : 0 ≤ lo) (h1 : lo = hi) (h2 : hi ≤ zi.length)
    (k : ∀ h', Fr h₀ L h' m → News h₀ L h' news → Q () ⟨h', g, dr, tk, o⟩) : wpAny (model prog w) A (setItem (.ref D) (.ref h.objs.size) (.ref lv)) Q E ⟨h.push (slObj lo hi t1 t2), g, dr, tk, o⟩ := by
  have hl1 := hv.length
  have hl2 := hw.length
  have zD := (N _ hm).1
  have zv := (N _ hm2).1
  have hws : ws = [] := List.eq_nil_of_length_eq_zero (by omega)
  subst hws h1
  refine setSlice_at (s := ⟨h.push (slObj lo lo t1 t2), g, dr, tk, o⟩) (Heap.get?_push_of_some _ zD) (Heap.IsSliceOf.new h _ _ _) (PySem.IsL.isList (n := nw) (Heap.get?_push_of_some _ zv)) hne h0 (Int.le_refl _)
    (by rw [List.size_toArray]; omega) (by rw [List.size_toArray, sizeLine_eq]; simp; omega) ?_
  have up : ∀ b o, h.get? b = some o → (h.push (slObj lo lo t1 t2)).get? b = some o := fun b o e => Heap.get?_push_of_some _ e
  have ee : (fun xs : Array Value => xs.extract 0 lo.toNat ++ ([] : List Value).toArray ++ xs.extract (max lo lo).toNat xs.size) = id := by
    funext xs
    show _ = xs
    rw [Int.max_self]
    apply Array.toList_inj.mp
    simp
    exact List.take_of_length_le (by rw [Array.length_toList]; exact Nat.le_max_right ..)
  rw [ee]
  refine k _ ?_ ?_
  · have F' := F.keeps up
    refine F'.change (Heap.SameBut.update ..) (N _ hm).2.1 (N _ hm).2.2
  · intro p hp
    refine ⟨?_, (N _ hp).2⟩
    by_cases hpd : p.1 = D
    · have e1 := (N _ hp).1
      rw [hpd] at e1 ⊢
      have e2 : p.2 = listOf vs.toArray n := by rw [zD] at e1; exact (Option.some.inj e1).symm
      rw [e2]
      have q := PySem.IsL.update (h := h.push (slObj lo lo t1 t2)) (l := D) (items := vs.toArray) (n := n) (Heap.get?_push_of_some _ zD) id
      simpa using q
    · exact (Heap.get?_update_ne _ _ _ _ hpd).trans (up _ _ (N _ hp).1)

/-- xs[0:len(ws)] = ws -/
theorem setSlice_front (F : Fr h₀ L h m) (N : News h₀ L h news) (hv : IntsAre vs zi) (hw : IntsAre ws wi) (U : Upd D (listOf vs.toArray n) (listOf (ws ++ vs.drop wi.length).toArray n) news news') (hm2 : (lv, listOf ws.toArray nw) ∈ news)
    (hne : @Ne Nat lv D) (hz2 : zi.length ≤ 100) (h0 : lo = 0) (h1 : hi = wi.length) (h2 : wi.length ≤ zi.length)
    (k : ∀ h', Fr h₀ L h' m → News h₀ L h' news' → IntsAre (ws ++ vs.drop wi.length) (wi ++ zi.drop wi.length) → Q () ⟨h', g, dr, tk, o⟩) :
    wpAny (model prog w) A (setItem (.ref D) (.ref h.objs.size) (.ref lv)) Q E ⟨h.push (slObj lo hi t1 t2), g, dr, tk, o⟩ := by
  have hl1 := hv.length
  have hl2 := hw.length
  subst h0 h1
  have up : ∀ b o, h.get? b = some o → (h.push (slObj 0 wi.length t1 t2)).get? b = some o := fun b o e => Heap.get?_push_of_some _ e
  refine setSlice_K (s := ⟨h.push (slObj 0 wi.length t1 t2), g, dr, tk, o⟩) (F.keeps up) (N.grown up) (Heap.IsSliceOf.new h _ _ _) (PySem.IsL.isList (n := nw) (up _ _ (N _ hm2).1)) U hne (Int.le_refl _) (by omega)
    (by rw [List.size_toArray]; omega) (by rw [List.size_toArray, List.size_toArray, sizeLine_eq]; omega) ?_ ?_ (fun h' F' N' => k h' F' N' (ints_app hw (ints_drop hv _)))
  · apply Array.toList_inj.mp
    simp
    exact List.take_of_length_le (by rw [List.length_drop]; exact Nat.le_refl _)
  · rw [if_pos]
    simp
    omega
end
end
end Mine
end PSetSl
section PLoops
open PySem PySem.W PyProof.Rows PySem.Calls PySem.Spec
set_option maxRecDepth 100000
set_option maxHeartbeats 8000000
namespace Mine
section
variable {prog : Program} {w : World} {A : Around} {E : Value → Shared → Prop} {s : Shared} {env : Env} {h₀ : Heap} {x : Str} {body : List Stmt} {Q : Flow → Shared → Prop}
theorem iter_nil {l : Addr} {vs : List Value} {ns : List Int} {nn : Nat} {m₀ : Str → Option Value} {news : List (Addr × Obj)}
    (hh : A.handled = none) (hl : (l, listOf vs.toArray nn) ∈ news) (hi : IntsAre vs ns) (hz : ns.length = 0) (F : Fr h₀ env.locals s.heap m₀) (N : News h₀ env.locals s.heap news)
    (k : ∀ h tk, Fr h₀ env.locals h m₀ → News h₀ env.locals h news → Q .next { s with heap := h, toks := tk }) :
    wpAny (model prog w) A (pyIter (.ref l)) (fun it s₂ => LoopAtV prog w A h₀ env x body Q E it s₂) E s := by
  obtain rfl := List.eq_nil_of_length_eq_zero hz
  refine iter_invNL (fun i m nx => m = m₀ ∧ nx = news) hh hl hi F N ⟨rfl, rfl⟩ ?_ ?_
  · intro i n t m₁ news₁ h tk own e
    cases e
  · rintro m₁ news₁ h tk _ ⟨rfl, rfl⟩ F' N'
    exact k h tk F' N'
end
end Mine
end PLoops
section PExc
open PySem PySem.W PyProof.Rows PySem.Calls PySem.Spec
open PySem.Builtin.ObjectAttr
set_option maxRecDepth 100000
set_option maxHeartbeats 8000000
namespace Mine
abbrev excO (C tp : Addr) (dd : Option Addr) : Obj := { cls := .ref C, dict := dd, data := .fields #[.ref tp, .none, .none, .none, .bool false, .none] }
section
variable {prog : Program} {w : World} {A : Around} {E : Value → Shared → Prop} {s : Shared} {K : Frag} {C x tp : Addr}
theorem exc_refuse (self : Value) (C : Addr) : refuseLoop self "__setattr__" [.ref C, .type "Exception", .type "BaseException", .type "object"] = pure () := by
  rw [refuseLoop_ref]
  kernel_rfl

theorem store_in {d : Addr} {name : Str} {tk : Tok} {v : Value} {es : List DictEntry} {n : Nat} {Q : PySem.Fin → Shared → Prop} (hD : s.heap.get? d = some (dictOf es n)) (hz : es.length ≤ 1000) (hl : (getL name es).isSome = true)
    (h : Q (.done (.ret .none)) { s with heap := s.heap.update d (Obj.putName name (PyData.keyHash w.params name) (.str name s.toks) v), toks := s.toks + 1 }) :
    wpAny (model prog w) A (storeInDict d (.str name tk) name v) Q E s := by
  refine wpAny_bind (wpAny_pure (wpAny_bind ?_))
  unfold nsSet
  refine wpAny_bind (wpAny_bind (wpAny_askSetting (wpAny_pure (wpAny_bind (wpAny_mkText (wpAny_bind (wpAny_loadPart hD ?_)))))))
  have c : (!es.toArray.any (·.key.isStr name) && es.toArray.any (·.refKey)) = false := by
    rw [← Array.any_toList, ← Array.any_toList]
    unfold getL at hl
    split at hl
    · rename_i en he
      rw [List.any_eq_true.mpr ⟨en, List.mem_of_find?_eq_some he, List.find?_some he⟩]; rfl
    · split at hl
      · cases hl
      · rename_i z; rw [Bool.not_eq_true] at z; rw [z, Bool.and_false]
  dsimp only
  rw [aRefKeyMayBeTheName_at, c]
  refine wpAny_updatePart hD ?_
  have D' : (s.heap.update d (Obj.putName name (PyData.keyHash w.params name) (.str name s.toks) v)).get? d = some (dictOf (putL name (PyData.keyHash w.params name) (.str name s.toks) v es) (putN name es n)) := by
    rw [← putName_dict]
    exact Heap.get?_update_self _ hD (by rw [putName_dict]; rfl)
  refine wpAny_bind (wpAny_lookBehind D' (pastItsLine_dict ?_) ?_)
  · rw [List.size_toArray]
    have : (putL name (PyData.keyHash w.params name) (.str name s.toks) v es).length ≤ es.length + 1 := by
      clear hD hz hl h c D'
      induction es with
      | nil => simp [putL]
      | cons e r ih =>
        unfold putL
        split
        · simp
        · simp only [List.length_cons]; omega
    rw [sizeLine_eq]; omega
  · exact wpAny_pure h

theorem exc_osa {name : Str} {tk : Tok} {v : Value} {R : Result → Shared → Prop} {dd : Option Addr} {cd : ClassData} (X : K.In s.heap) (hx : s.heap.get? x = some (excO C tp dd))
    (hc : clsIn K C = some cd) (hm : cd.mro = [.ref C, .type "Exception", .type "BaseException", .type "object"]) (ht : takerIn K C name = some none)
    (h : ∀ b, wpAny (model prog w) A.in1 (storeInOwnDict (.ref x) (.ref C) (.str name tk) name v b)
      (fun fin s' => match fin with | .done f => R (.ok f) s' | .again c' => c'.quiet = true ∧ codeAny (model prog w) A c' R s') (fun e s' => R (.error e) s') s) :
    codeAny (model prog w) A (.call (.builtin "object.__setattr__") ⟨[.ref x, .str name tk, v], []⟩) R s := by
  have SF := PySem.F.store_object
  have T : Looks (model prog w) s.heap (typeOf (.ref x)) (.ref C) := (Looks.ld hx).andThen .now
  have sub : Looks (model prog w) s.heap (isInstance (.ref x) (.type "object")) true := T.andThen (looks_mroIn X (by unfold mroIn; rw [hc, Option.bind_some, if_neg (by rw [hm]; exact Bool.false_ne_true), hm]; simp))
  refine codeAny_call_builtin SF.slot.plain SF.entry (@check_slot (model prog w) _ _ s "object.__setattr__" "object" "__setattr__" (.ref x) [.str name tk, v] [] _ SF.kind SF.split sub (SF.args (.ref x) (.str name tk) v) ?_)
  obtain ⟨attr, ha, hr⟩ := Option.bind_eq_some_iff.mp ht
  have hmm : Looks (model prog w) s.heap (mroOf (.ref C)) cd.mro := (looks_clsIn X hc).andThen .now
  have L3 : Looks (model prog w) s.heap (storeTaker? attr) none := by
    cases attr with
    | none => cases hr; exact .now
    | some a =>
      obtain ⟨b, hb, hbr⟩ := Option.map_eq_some_iff.mp hr
      refine (looks_takesIn X hb).andThen ?_
      cases b with
      | true => cases hbr
      | false => exact .now
  rw [osa_eq, refuse_eq]
  refine wpAny_bind (wpAny_bind (T.here (wpAny_bind (hmm.here ?_))))
  rw [hm, exc_refuse]
  refine wpAny_pure (wpAny_bind (T.here (wpAny_bind ((looks_findIn X ha).here (wpAny_bind (L3.here ?_))))))
  exact h _

theorem exc_set {name : Str} {v : Value} {dd : Option Addr} {cd : ClassData} {Q : Unit → Shared → Prop} (X : K.In s.heap) (hx : s.heap.get? x = some (excO C tp dd))
    (hs : findIn K (.ref C) "__setattr__" = some (some (.builtin "object.__setattr__")))
    (hc : clsIn K C = some cd) (hm : cd.mro = [.ref C, .type "Exception", .type "BaseException", .type "object"]) (ht : takerIn K C name = some none)
    (h : ∀ b tk, wpAny (model prog w) A.in1 (storeInOwnDict (.ref x) (.ref C) (.str name tk) name v b) (fun fin s' => fin = .done (.ret .none) ∧ Q () s') E { s with toks := s.toks + 1 }) :
    wpAny (model prog w) A (setAttr (.ref x) name v) Q E s := by
  have T : Looks (model prog w) s.heap (typeOf (.ref x)) (.ref C) := (Looks.ld hx).andThen .now
  refine wpAny_bind (wpAny_mkText (wpAny_bind (wpAny_bind (wpAny_bind (T _ _ _ _ (fun _ _ e => e) (looks_findIn X hs _ _ _ _ (fun _ _ e => e) (wpAny_holding ?_)))))))
  rw [PySem.F.store_object.slot.bind]
  refine wpAny_bind (wpAny_pure (wpAny_bind (wpAny_call (exc_osa (s := { s with toks := s.toks + 1 }) X hx hc hm ht fun b => ?_))))
  refine wpAny_mono (h b _) (fun fin s' hf => ?_) (fun _ _ e => e)
  obtain ⟨rfl, hq⟩ := hf
  exact wpAny_pure (wpAny_pure hq)

/-- the dict is there -/
theorem exc_store {name : Str} {tk : Tok} {v : Value} {dx : Addr} {es : List DictEntry} {n : Nat} {b : Bool} {cd : ClassData} {Q : PySem.Fin → Shared → Prop} (X : K.In s.heap) (hx : s.heap.get? x = some (excO C tp (some dx)))
    (hc : clsIn K C = some cd) (hd : cd.hasDict = true) (hD : s.heap.get? dx = some (dictOf es n)) (hz : es.length ≤ 1000) (hl : (getL name es).isSome = true)
    (h : Q (.done (.ret .none)) { s with heap := s.heap.update dx (Obj.putName name (PyData.keyHash w.params name) (.str name s.toks) v), toks := s.toks + 1 }) :
    wpAny (model prog w) A (storeInOwnDict (.ref x) (.ref C) (.str name tk) name v b) Q E s := by
  refine wpAny_bind (wpAny_pure (wpAny_bind (wpAny_bind (wpAny_loadPart hx (wpAny_bind ((looks_clsIn X hc).here ?_))))))
  rw [hd]
  exact wpAny_pure (a := some dx) (store_in hD hz hl h)

/-- the first store makes the dict -/
theorem exc_store0 {name : Str} {tk : Tok} {v : Value} {b : Bool} {cd : ClassData} {Q : PySem.Fin → Shared → Prop} (X : K.In s.heap) (hx : s.heap.get? x = some (excO C tp none))
    (hc : clsIn K C = some cd) (hd : cd.hasDict = true)
    (h : Q (.done (.ret .none)) { s with heap := ((s.heap.push emptyDict).update x (fun o => { o with dict := some s.heap.objs.size })).update s.heap.objs.size (Obj.putName name (PyData.keyHash w.params name) (.str name s.toks) v), toks := s.toks + 1 }) :
    wpAny (model prog w) A (storeInOwnDict (.ref x) (.ref C) (.str name tk) name v b) Q E s := by
  refine wpAny_bind (wpAny_pure (wpAny_bind (wpAny_bind (wpAny_loadPart hx (wpAny_bind ((looks_clsIn X hc).here ?_))))))
  rw [hd]
  show wpAny _ _ (alloc emptyDict >>= fun d => update x (fun o => { o with dict := some d }) >>= fun _ => dictMade (.ref C) x d) _ _ _
  refine wpAny_bind (wpAny_alloc (wpAny_bind (wpAny_update (Heap.get?_push_of_some _ hx) (wpAny_pure ?_))))
  have hlt : x < s.heap.objs.size := Heap.lt_size hx
  refine store_in (es := []) (n := 0) ?_ (by decide) rfl h
  exact (Heap.get?_update_ne _ _ _ _ (Ne.symm (Nat.ne_of_lt hlt))).trans (Heap.get?_push_size _ rfl)
end
section
variable {prog : Program} {w : World} {A : Around} {E : Value → Shared → Prop} {K : Frag} {h : Heap} {g : Array GenState} {d : Drawn} {t : Nat} {os : OsState}
variable {nm q : Str} {C N fI : Addr} {bs bm : List Value} {hdct : Bool} {sn : List Str} {sub : List Value} {ab : Bool} {col : Option Bool} {dd : Option Addr} {k0 k1 k2 k3 k5 : Option Value} {B newId initId : String}
theorem exc_make {rest : List Value} {R : Result → Shared → Prop} (X : K.In h) (hC : h.get? C = some (excClassObj nm q C N bs bm hdct sn sub ab col dd k0 k1 k2 k3 k5 newId)) (F : ExcBaseFacts B newId initId bm)
    (hi : findIn K (.ref C) "__init__" = some (some (.ref fI))) (hf : typeIn K (.ref fI) = some (.type "function")) (hrest : rest.length ≤ sizeLine)
    (hq : codeAny (model prog w) (A.under (.builtin "type.__call__" ⟨.ref C :: rest, []⟩)) (.call (.ref fI) ⟨.ref (h.objs.size + 1) :: rest, []⟩) (InitBack (h.objs.size + 1) R)
      ⟨(h.push { cls := .type "tuple", data := .seq rest.toArray }).push (excO C h.objs.size none), g, d, t, os⟩) :
    codeAny (model prog w) A (.call (.ref C) ⟨rest, []⟩) R ⟨h, g, d, t, os⟩ := by
  have f1 := tc_lookup
  have f2 := tc_bind (.ref C)
  have hT : (⟨h, g, d, t, os⟩ : Shared).TypeIs (.ref C) "type" := ⟨_, hC, rfl⟩
  refine codeAny_of_tree ?_
  show wpAny _ _ (callAny (.ref C) _) _ _ _
  repeat (any_goals (first | assumption | with_reducible refine wpAny_loadPart_at hC ?_ | wp_step))
  refine ⟨rfl, ?_⟩
  refine codeAny_call_builtin_at (Code.quiet_builtin _ (by decide +kernel)) entry_typeCall (wpAny_check_type_call_sub hC ?_)
  unfold Builtin.«type.__call__»
  repeat (first | with_reducible refine wpAny_loadPart_at hC ?_ | with_reducible refine wpAny_madeBy_exc hC ?_ | wp_step)
  refine codeAny_call_builtin_code (Code.quiet_builtin _ F.quiet) (wpAny_check_new_sub F hC ?_)
  refine codeAny_exc_new_sub F hC ?_ hrest
  show wpAny _ _ _ _ _ _
  have k : ∀ b o, h.get? b = some o → ((h.push { cls := .type "tuple", data := .seq rest.toArray }).push (excO C h.objs.size none)).get? b = some o := fun b o e => Heap.get?_push_of_some _ (Heap.get?_push_of_some _ e)
  have hC₁ := k _ _ hC
  have X₁ : K.In ((h.push { cls := .type "tuple", data := .seq rest.toArray }).push (excO C h.objs.size none)) := X.keeps k
  have hget : ((h.push { cls := .type "tuple", data := .seq rest.toArray }).push (excO C h.objs.size none)).get? (h.objs.size + 1) = some (excO C h.objs.size none) := by heap_get
  have hcC : (Value.ref C :: bm).contains (.ref C) = true := by simp
  unfold isInstance
  repeat (first | with_reducible refine wpAny_loadPart_at hget ?_ | ((show wpAny _ _ (isSubtype (.ref C) (.ref C)) _ _ _); refine wpAny_isSubtype_exc hC₁ ?_; rw [hcC]) | wp_step)
  show wpAny _ _ (typeLookup (.ref C) _) _ _ _
  refine (looks_findIn X₁ hi).here ?_
  refine wpAny_holding (wpAny_bind ((bind_fn X₁ _ hf).here ?_))
  refine wpAny_bind (wpAny_call (codeAny_mono hq fun r s' z => ?_))
  rcases r with e | (v | _ | _ | _) <;> first | exact z | exact z.elim | skip
  obtain ⟨rfl, z⟩ := z
  exact wpAny_pure (wpAny_pure z)
end
section
variable {prog : Program} {w : World} {A : Around} {E : Value → Shared → Prop} {K : Frag} {s : Shared} {C : Addr} {env : Env}
theorem raise_exc {e : PySem.Expr} {pos : Pos} {Q : Flow → Shared → Prop} (hh : A.handled = none) (hsub : subIn K (.ref C) (.type "BaseException") = some true) (hty : typeIn K (.ref C) = some (.type "type"))
    (h : wpAny (model prog w) A (eval e env) (fun v s₁ => ∃ x tp dd, v = .ref x ∧ K.In s₁.heap ∧ s₁.heap.get? x = some (excO C tp dd) ∧ E (.ref x) s₁) E s) :
    wpAny (model prog w) A (exec (.Raise (some e) none pos) env) Q E s := by
  show wpAny _ A (do standAt pos; raiseStmt env (some (do let v ← eval e env; standAt pos; pure v)) none) Q E s
  refine wpAny_bind (wpAny_standAt ?_)
  unfold raiseStmt
  dsimp only
  refine wpAny_bind (wpAny_bind (wpAny_mono h (fun v s₁ h₁ => wpAny_bind (wpAny_standAt (wpAny_pure ?_))) fun _ _ x => x))
  obtain ⟨a, tp, dd, rfl, X, ha, hE⟩ := h₁
  have T : Looks (model prog w) s₁.heap (typeOf (.ref a)) (.ref C) := (Looks.ld ha).andThen .now
  have I : Looks (model prog w) s₁.heap (isInstance (.ref a) (.type "BaseException")) true := T.andThen (looks_subIn X hsub)
  have hnt : ∀ {Q' : Bool → Shared → Prop}, Q' false s₁ → wpAny (model prog w) A (isType (.ref a)) Q' E s₁ := by
    intro Q' hq
    simp only [isType, loadHead]
    refine wpAny_bind (wpAny_loadPart ha ?_)
    exact wpAny_pure hq
  refine wpAny_bind (wpAny_pure ?_)
  dsimp only
  refine wpAny_bind (wpAny_holding ?_)
  unfold excFromValue isExcClass
  refine wpAny_bind (wpAny_bind (hnt ?_))
  simp only [Bool.false_eq_true, if_false]
  refine wpAny_pure ?_
  simp only [Bool.false_eq_true, if_false]
  refine wpAny_bind (I.here ?_)
  simp only [if_true]
  refine wpAny_pure ?_
  refine wpAny_bind (hnt ?_)
  simp only [Bool.false_eq_true, if_false]
  unfold raisedInstance
  refine wpAny_bind (wpAny_bind (T.here (wpAny_bind ((looks_typeIn X hty).here ?_))))
  rw [if_pos (by rfl)]
  refine wpAny_pure ?_
  unfold setFlight raiseNew
  refine wpAny_bind (wpAny_bind (wpAny_field ha rfl (x := .none) rfl ?_))
  rw [if_neg (by decide)]
  refine wpAny_pure (wpAny_bind (wpAny_handled ?_))
  rw [hh]
  first
    | exact wpAny_throw hE
    | exact wpAny_bind (wpAny_pure (wpAny_throw hE))
end
end Mine
end PExc
section PExc2
open PySem PySem.W PyProof.Rows PySem.Calls PySem.Spec
open PySem.Builtin.ObjectAttr
set_option maxRecDepth 100000
set_option maxHeartbeats 8000000
namespace Mine
section
variable {prog : Program} {w : World} {A : Around} {E : Value → Shared → Prop} {K : Frag} {h : Heap} {g : Array GenState} {d : Drawn} {t : Nat} {os : OsState} {C x dx : Addr} {name : Str}
abbrev excV (C : Addr) (vs : Array Value) (dd : Option Addr) : Obj := { cls := .ref C, dict := dd, data := .fields vs }
theorem exc_ga {tk : Tok} {v : Value} {vs : Array Value} {es : List DictEntry} {n : Nat} {cd : ClassData} {R : Result → Shared → Prop} (X : K.In h) (hx : h.get? x = some (excV C vs (some dx)))
    (hD : h.get? dx = some (dictOf es n)) (hl : getL name es = some (some v))
    (hc : clsIn K C = some cd) (hd : cd.hasDict = true) (hn : findIn K (.ref C) name = some none) (hsub : subIn K (.ref C) (.type "BaseException") = some true)
    (hq : R (.ok (.ret v)) ⟨h, g, d, t, os⟩) :
    codeAny (model prog w) A (.call (.builtin "BaseException.__getattribute__") ⟨[.ref x, .str name tk], []⟩) R ⟨h, g, d, t, os⟩ := by
  have hk : builtinKind "BaseException.__getattribute__" = some .slot := by decide +kernel
  have hsplit : splitId "BaseException.__getattribute__" = some ("BaseException", "__getattribute__") := by decide +kernel
  have T : Looks (model prog w) h (typeOf (.ref x)) (.ref C) := (Looks.ld hx).andThen .now
  have S : Looks (model prog w) h (isInstance (.ref x) (.type "BaseException")) true := T.andThen (looks_subIn X hsub)
  have L1 : Looks (model prog w) h (typeLookup (.ref C) name) none := looks_findIn X hn
  have L2 := looks_clsIn (M := model prog w) X hc
  have L3 : Looks (model prog w) h (ownDict x) (some dx) := by
    refine (Looks.ld (part := some headPart) hx).andThen ?_
    refine (Looks.ld (part := some headPart) hx).andThen ?_
    refine L2.andThen ?_
    rw [hd]
    exact .now
  have L4 : Looks (model prog w) h (nsGet dx name) (some v) := by
    refine (Looks.ld (part := some (.str name 0)) hD).andThen ?_
    exact Looks.of_pure (nsLook_of ((lookIn_dict name es n).trans hl))
  refine codeAny_call_builtin PySem.F.attr_Exception.ga.plain PySem.F.entry_bexc_ga (@check_slot (model prog w) _ _ ⟨h, g, d, t, os⟩ "BaseException.__getattribute__" "BaseException" "__getattribute__" (.ref x) [.str name tk] [] _ hk hsplit S (PySem.F.args_bexc_ga _ _) ?_)
  unfold Builtin.«object.__getattribute__»
  repeat lk
  exact hq
theorem exc_get {v : Value} {vs : Array Value} {es : List DictEntry} {n : Nat} {cd : ClassData} {expr : Bool} {Q : Value → Shared → Prop} (X : K.In h) (hx : h.get? x = some (excV C vs (some dx)))
    (hD : h.get? dx = some (dictOf es n)) (hl : getL name es = some (some v)) (hh : handedIn v = true)
    (hc : clsIn K C = some cd) (hd : cd.hasDict = true) (hn : findIn K (.ref C) name = some none) (hsub : subIn K (.ref C) (.type "BaseException") = some true)
    (hga : findIn K (.ref C) "__getattribute__" = some (some (.builtin "BaseException.__getattribute__"))) (hgt : findIn K (.ref C) "__getattr__" = some none)
    (hq : Q v ⟨h, g, d, t + 1, os⟩) :
    wpAny (model prog w) A (getAttr (.ref x) name expr) Q E ⟨h, g, d, t, os⟩ := by
  have T : Looks (model prog w) h (typeOf (.ref x)) (.ref C) := (Looks.ld hx).andThen .now
  have L1 := looks_findIn (M := model prog w) X hga
  have L2 := looks_findIn (M := model prog w) X hgt
  have f3 := PySem.F.attr_Exception.ga.bind (.ref x)
  have hx0 : (expr && onTheHeap (Value.builtin "BaseException.__getattribute__")) = false := by cases expr <;> rfl
  have hx2 : (Value.builtin "BaseException.__getattribute__" == Value.builtin "object.__getattribute__") = false := by decide +kernel
  have hx1 : (onTheHeap (Value.ref C) && Value.builtin "BaseException.__getattribute__" == Value.builtin "object.__getattribute__") = false := by rw [hx2]; rfl
  have Lb : Looks (model prog w) h (bindSpecial (.builtin "BaseException.__getattribute__") (.ref x)) (.builtin "BaseException.__getattribute__", [.ref x]) := Looks.of_pure f3
  unfold getAttr
  refine wpAny_bind (wpAny_mkText ?_)
  unfold getAttrBy
  refine wpAny_holding ?_
  repeat (first | rw [if_neg (by rw [hx1]; exact Bool.false_ne_true)] | lk)
  show wpAny _ _ (Sem.attempt (holding (none : Option Value).toList (callGetattribute (.ref x) (.str name t) (.builtin "BaseException.__getattribute__") expr))) _ _ _
  refine wpAny_attempt (wpAny_holding ?_)
  unfold callGetattribute
  rw [hx0]
  show wpAny _ _ (boundAndCalled _ _ _) _ _ _
  unfold boundAndCalled
  refine wpAny_bind (Lb.at ?_)
  refine wpAny_call (exc_ga X hx hD hl hc hd hn hsub ?_)
  show wpAny _ _ (handedOut v) _ _ _
  rw [handedOut_of hh]
  exact wpAny_pure hq
end
end Mine
end PExc2
section PExc3
open PySem PySem.W PyProof.Rows PySem.Calls PySem.Spec
set_option maxRecDepth 100000
set_option maxHeartbeats 8000000
namespace Mine
/-- the exception, with its dict, and its newest row of the trace, which says fl -/
def XT (h base : Heap) (e C : Addr) (dd : Option Addr) (fl : Value) : Prop :=
  ∃ vs T oT ts, h.get? e = some (excV C vs dd) ∧ vs[1]? = some (.ref T) ∧ base.get? T = none ∧ T ≠ e ∧ h.get? T = some oT ∧ oT.data = .fields ts ∧ ts[3]? = some fl
def XF (base : Heap) (l : List Env) (e C : Addr) (dd : Option Addr) (fl : Value) (h : Heap) : Prop :=
  base.StaysIn h ∧ base.get? e = none ∧ h.FunFrames base l ∧ XT h base e C dd fl
section
variable {M : Model} {A : Around} {E : Value → Shared → Prop} {s : Shared} {base : Heap} {env : Env} {outer : List Env} {L e C : Addr} {dd : Option Addr} {Q : Unit → Shared → Prop}
theorem x_entry {vs : Array Value} {head : Value} {hadNext : Bool}
    (hfr : A.frames = some (env :: outer)) (hl : s.heap.FunFrames base (env :: outer)) (hf : env.frame = some L)
    (he : s.heap.get? e = some (excV C vs dd)) (hkb : base.StaysIn s.heap) (hen : base.get? e = none) (hsz : 1 < vs.size)
    (h : ∀ h', XF base (env :: outer) e C dd (rawInt L) h' → s.heap.UpToSlots h' → Q () { s with heap := h' }) :
    wpAny M A (do let a ← frameOf env; let pl ← entryPlaceOf L hadNext; let b ← EntryCells.newEntry head a .none (rawInt L) .none pl; setField (.ref e) 1 b) Q E s := by
  have hene : e ∉ (env :: outer).filterMap (·.frame) := fun hm => by
    obtain ⟨_, o, ho, hnf⟩ := hl.mem hm
    rw [he] at ho; injection ho with ho; subst ho; exact hnf vs rfl
  refine wpAny_bind (wpAny_frameOf_fun hfr hl hf fun h₁ hs₁ => ?_)
  refine wpAny_bind (wpAny_entryPlaceOf fun pl hpl => ?_)
  unfold EntryCells.newEntry newFields
  refine wpAny_bind (wpAny_newObj_type ?_ (hpl.sizeOk5 _ _ _ _ _))
  have he₁ : h₁.get? e = some (excV C vs dd) := (hs₁.2.1 e hene).trans he
  have kb₁ : base.StaysIn h₁ := fun b o hbo => (hs₁.2.1 b fun hm => by rw [(hl.mem hm).1] at hbo; cases hbo).trans (hkb b o hbo)
  generalize hrow : ([head, .ref L, .none, rawInt L, .none] ++ (if pl.isEmpty then List.replicate 6 Value.none else pl)).toArray = row
  have hrow3 : row[3]? = some (rawInt L) := by rw [← hrow]; simp
  have he₂ := Heap.get?_push_of_some (h := h₁) { cls := .type "traceback", dict := none, data := .fields row } he₁
  refine wpAny_setField he₂ rfl hsz (h _ ?_ ?_)
  · have hTe : h₁.objs.size ≠ e := Nat.ne_of_gt (Heap.lt_size he₁)
    have he₃ : ((h₁.push { cls := .type "traceback", dict := none, data := .fields row }).update e (Obj.mapFields (·.setIfInBounds 1 (Value.ref h₁.objs.size)))).get? e = some (excV C (vs.setIfInBounds 1 (.ref h₁.objs.size)) dd) :=
      Heap.get?_update_self _ he₂ rfl
    have hT₃ : ((h₁.push { cls := .type "traceback", dict := none, data := .fields row }).update e (Obj.mapFields (·.setIfInBounds 1 (Value.ref h₁.objs.size)))).get? h₁.objs.size = some { cls := .type "traceback", dict := none, data := .fields row } :=
      (Heap.get?_update_other _ _ (Ne.symm hTe)).trans (Heap.get?_push_size h₁ rfl)
    refine ⟨fun b o hbo => ?_, hen, ?_, ?_⟩
    · rw [Heap.get?_update_other _ _ (fun q => by rw [← q, hen] at hbo; cases hbo)]
      exact Heap.get?_push_of_some _ (kb₁ b o hbo)
    · refine hl.of_keeps fun b o hb hnf => ?_
      obtain ⟨sl, hs⟩ := hs₁.2.2 b o hb
      refine ⟨{ o with slots := sl }, ?_, rfl⟩
      rw [Heap.get?_update_other _ _ (fun q => by rw [← q, he] at hb; injection hb with hb; subst hb; exact hnf vs rfl)]
      exact Heap.get?_push_of_some _ hs
    · exact ⟨_, h₁.objs.size, _, row, he₃, by simp [hsz], kb₁.fresh, hTe, hT₃, rfl, hrow3⟩
  · intro b o hb hnf
    obtain ⟨sl, hs⟩ := hs₁.2.2 b o hb
    refine ⟨sl, ?_⟩
    rw [Heap.get?_update_other _ _ (fun q => by rw [← q, he] at hb; injection hb with hb; subst hb; exact hnf vs rfl)]
    exact Heap.get?_push_of_some _ hs

theorem x_first {vs : Array Value} (hfr : A.frames = some (env :: outer)) (hl : s.heap.FunFrames base (env :: outer)) (hf : env.frame = some L)
    (he : s.heap.get? e = some (excV C vs dd)) (hkb : base.StaysIn s.heap) (hen : base.get? e = none) (h1 : vs[1]? = some .none)
    (h : ∀ h', XF base (env :: outer) e C dd (rawInt L) h' → s.heap.UpToSlots h' → Q () { s with heap := h' }) : wpAny M A (noteFrame (.ref e) env) Q E s := by
  unfold noteFrame
  simp only [hf]
  refine wpAny_bind (wpAny_field he rfl h1 ?_)
  rw [if_neg (by decide)]
  exact x_entry hfr hl hf he hkb hen (Array.getElem?_eq_some_iff.mp h1).1 h

theorem x_flight {l : List Env} {fl : Value} (x : XF base l e C dd fl s.heap) (h : ∀ h', XF base l e C dd .none h' → s.heap.UpToSlots h' → Q () { s with heap := h' }) : wpAny M A (setFlight (.ref e) none) Q E s := by
  obtain ⟨hkb, hen, hl, vs, T, oT, ts, he, h1, hnT, hTe, hT, hdT, h3⟩ := x
  have hsz3 : 3 < ts.size := (Array.getElem?_eq_some_iff.mp h3).1
  have other : ∀ b, b ≠ T → (s.heap.update T (Obj.mapFields (·.setIfInBounds 3 ((none : Option Addr).elim Value.none fun f => rawInt f)))).get? b = s.heap.get? b :=
    fun b hb => Heap.get?_update_other _ _ (Ne.symm hb)
  have noRecord : ∀ b o, s.heap.get? b = some o → (∀ vs, o.data ≠ .fields vs) → b ≠ T := fun b o hb hnf q => by
    rw [q, hT] at hb; injection hb with hb; subst hb; exact hnf ts hdT
  unfold setFlight
  refine wpAny_bind (wpAny_field he rfl h1 ?_)
  rw [if_pos (show (Value.ref T != Value.none) = true from by simp)]
  refine wpAny_setField hT hdT hsz3 (h _ ⟨fun b o hbo => (other b fun q => by rw [q, hnT] at hbo; cases hbo).trans (hkb b o hbo), hen, hl.of_keeps fun b o hb hnf => ⟨o, (other b (noRecord b o hb hnf)).trans hb, rfl⟩, ?_⟩ fun b o hb hnf => ⟨o.slots, (other b (noRecord b o hb hnf)).trans hb⟩)
  exact ⟨vs, T, _, _, (other e (Ne.symm hTe)).trans he, h1, hnT, hTe, Heap.get?_update_self _ hT (Obj.isFreed_of_fields (Obj.data_mapFields hdT _)), Obj.data_mapFields hdT _, by simp [hsz3]⟩

theorem x_next (hfr : A.frames = some (env :: outer)) (hf : env.frame = some L) (x : XF base (env :: outer) e C dd .none s.heap)
    (h : ∀ h', XF base (env :: outer) e C dd (rawInt L) h' → s.heap.UpToSlots h' → Q () { s with heap := h' }) : wpAny M A (noteFrame (.ref e) env) Q E s := by
  obtain ⟨hkb, hen, hl, vs, T, oT, ts, he, h1, hnT, hTe, hT, hdT, h3⟩ := x
  unfold noteFrame
  simp only [hf]
  refine wpAny_bind (wpAny_field he rfl h1 ?_)
  rw [if_pos (show (Value.ref T != Value.none) = true from by simp)]
  refine wpAny_bind (wpAny_field hT hdT h3 ?_)
  rw [if_neg (show ¬ ((Value.none == rawInt L) = true) from by simp [rawInt])]
  refine wpAny_bind (wpAny_setField hT hdT (Array.getElem?_eq_some_iff.mp h3).1 ?_)
  have other : ∀ b, b ≠ T → (s.heap.update T (Obj.mapFields (·.setIfInBounds 3 Value.none))).get? b = s.heap.get? b := fun b hb => Heap.get?_update_other _ _ (Ne.symm hb)
  have noRecord : ∀ b o, s.heap.get? b = some o → (∀ vs, o.data ≠ .fields vs) → b ≠ T := fun b o hb hnf q => by
    rw [q, hT] at hb; injection hb with hb; subst hb; exact hnf ts hdT
  refine x_entry hfr (hl.of_keeps fun b o hb hnf => ⟨o, (other b (noRecord b o hb hnf)).trans hb, rfl⟩) hf ((other e (Ne.symm hTe)).trans he)
    (fun b o hbo => (other b fun q => by rw [q, hnT] at hbo; cases hbo).trans (hkb b o hbo)) hen (Array.getElem?_eq_some_iff.mp h1).1
    fun h' x1 x2 => h h' x1 fun b o hb hnf => x2 b o ((other b (noRecord b o hb hnf)).trans hb) hnf

theorem x_leave_first {vs : Array Value} (hfr : A.frames = some (env :: outer)) (hl : s.heap.FunFrames base (env :: outer)) (hf : env.frame = some L)
    (he : s.heap.get? e = some (excV C vs dd)) (hkb : base.StaysIn s.heap) (hen : base.get? e = none) (h1 : vs[1]? = some .none)
    (h : ∀ h', XF base outer e C dd .none h' → s.heap.UpToSlots h' → Q () { s with heap := h' }) : wpAny M A (leaving env (.ref e)) Q E s := by
  unfold leaving
  refine wpAny_bind (x_first hfr hl hf he hkb hen h1 fun h₁ x₁ u₁ => x_flight x₁ fun h₂ x₂ u₂ => ?_)
  obtain ⟨a, b, ⟨_, _, c⟩, d⟩ := x₂
  exact h h₂ ⟨a, b, c, d⟩ (u₁.trans u₂)
theorem x_leave_next (hfr : A.frames = some (env :: outer)) (hf : env.frame = some L) (x : XF base (env :: outer) e C dd .none s.heap)
    (h : ∀ h', XF base outer e C dd .none h' → s.heap.UpToSlots h' → Q () { s with heap := h' }) : wpAny M A (leaving env (.ref e)) Q E s := by
  unfold leaving
  refine wpAny_bind (x_next hfr hf x fun h₁ x₁ u₁ => x_flight x₁ fun h₂ x₂ u₂ => ?_)
  obtain ⟨a, b, ⟨_, _, c⟩, d⟩ := x₂
  exact h h₂ ⟨a, b, c, d⟩ (u₁.trans u₂)
end
end Mine
end PExc3
section PExc4
open PySem PySem.W PyProof.Rows PySem.Calls PySem.Spec
set_option maxRecDepth 100000
set_option maxHeartbeats 8000000
namespace Mine
section
variable {prog : Program} {w : World} {A : Around} {E : Value → Shared → Prop} {K : Frag} {s : Shared} {h₀ : Heap} {L C x tp dx : Addr} {m : Str → Option Value} {news news' : List (Addr × Obj)}
variable {nm q : Str} {N9 fI : Addr} {bs bm : List Value} {hdct : Bool} {sn : List Str} {sub : List Value} {ab : Bool} {col : Option Bool} {dd : Option Addr} {k0 k1 k2 k3 k5 : Option Value} {B newId initId : String}
abbrev tupO (vs : List Value) : Obj := { cls := .type "tuple", data := .seq vs.toArray }
theorem exc_make_K {rest : List Value} {R : Result → Shared → Prop} (F : Fr h₀ L s.heap m) (X₀ : K.In h₀) (N : News h₀ L s.heap news)
    (hC : K.lookup C = some (excClassObj nm q C N9 bs bm hdct sn sub ab col dd k0 k1 k2 k3 k5 newId)) (FB : ExcBaseFacts B newId initId bm)
    (hi : findIn K (.ref C) "__init__" = some (some (.ref fI))) (hf : typeIn K (.ref fI) = some (.type "function")) (hrest : rest.length ≤ sizeLine)
    (h : ∀ x tp h', Fr h₀ L h' m → News h₀ L h' ((x, excO C tp none) :: (tp, tupO rest) :: news) → (∀ p ∈ news, p.1 < tp) → tp < x →
      codeAny (model prog w) (A.under (.builtin "type.__call__" ⟨.ref C :: rest, []⟩)) (.call (.ref fI) ⟨.ref x :: rest, []⟩) (InitBack x R) { s with heap := h' }) :
    codeAny (model prog w) A (.call (.ref C) ⟨rest, []⟩) R s := by
  obtain ⟨hh, g, d, t, os⟩ := s
  refine exc_make (X₀.keeps F.keep) ((X₀.keeps F.keep) _ _ hC) FB hi hf hrest (h _ hh.objs.size _ ((F.push _).push _) ?_ (fun p hp => Heap.lt_size (N p hp).1) (Nat.lt_succ_self _))
  have := (N.push F (tupO rest)).push (F.push _) (excO C hh.objs.size none)
  rwa [Heap.size_push] at this

theorem exc_set_K1 {name : Str} {v : Value} {es es' : List DictEntry} {n n' : Nat} {cd : ClassData} {Q : Unit → Shared → Prop} (F : Fr h₀ L s.heap m) (X₀ : K.In h₀) (N : News h₀ L s.heap news)
    (hx : (x, excO C tp (some dx)) ∈ news)
    (hs : findIn K (.ref C) "__setattr__" = some (some (.builtin "object.__setattr__")))
    (hc : clsIn K C = some cd) (hm : cd.mro = [.ref C, .type "Exception", .type "BaseException", .type "object"]) (hd : cd.hasDict = true) (ht : takerIn K C name = some none)
    (hl : (getL name es).isSome = true) (hz : es.length ≤ 1000)
    (e : (putL name (PyData.keyHash w.params name) (.str name (s.toks + 1)) v es, putN name es n) = (es', n')) (U : Upd dx (dictOf es n) (dictOf es' n') news news')
    (h : ∀ h', Fr h₀ L h' m → News h₀ L h' news' → Q () { s with heap := h', toks := s.toks + 2 }) :
    wpAny (model prog w) A (setAttr (.ref x) name v) Q E s := by
  obtain ⟨pre, post, rfl, rfl, a, b⟩ := U.split
  obtain ⟨e1, e2⟩ := Prod.mk.inj e
  have X := X₀.keeps F.keep
  refine exc_set X (N _ hx).1 hs hc hm ht fun bb tk => ?_
  obtain ⟨U1, U2⟩ := news_upd (f := Obj.putName name (PyData.keyHash w.params name) (.str name (s.toks + 1)) v) F N a b (by rw [putName_dict, e1, e2]) rfl
  exact exc_store (s := { s with toks := s.toks + 1 }) X (N _ hx).1 hc hd (N (dx, dictOf es n) (by simp)).1 hz hl ⟨rfl, h _ U1 U2⟩

theorem exc_set_K0 {name : Str} {v : Value} {cd : ClassData} {Q : Unit → Shared → Prop} {nw : Obj → List (Addr × Obj)} (F : Fr h₀ L s.heap m) (X₀ : K.In h₀) (N : News h₀ L s.heap news)
    (U : UpdF x (excO C tp none) news nw)
    (hs : findIn K (.ref C) "__setattr__" = some (some (.builtin "object.__setattr__")))
    (hc : clsIn K C = some cd) (hm : cd.mro = [.ref C, .type "Exception", .type "BaseException", .type "object"]) (hd : cd.hasDict = true) (ht : takerIn K C name = some none)
    (h : ∀ dx h', Fr h₀ L h' m → News h₀ L h' ((dx, dictOf [⟨PyData.keyHash w.params name, .str name (s.toks + 1), v⟩] 1) :: nw (excO C tp (some dx))) → (∀ p ∈ news, p.1 < dx) → Q () { s with heap := h', toks := s.toks + 2 }) :
    wpAny (model prog w) A (setAttr (.ref x) name v) Q E s := by
  obtain ⟨pre, post, rfl, hg, a, b⟩ := U.split
  have X := X₀.keeps F.keep
  have hx := N (x, excO C tp none) (by simp)
  have hlt : x < s.heap.objs.size := Heap.lt_size hx.1
  refine exc_set X hx.1 hs hc hm ht fun bb tk => ?_
  have N1 := N.push F emptyDict
  have F1 := F.push emptyDict
  have hlt' : ∀ p ∈ pre ++ (x, excO C tp none) :: post, p.1 ≠ s.heap.objs.size := fun p hp => Nat.ne_of_lt (Heap.lt_size (N p hp).1)
  obtain ⟨F2, N2⟩ := news_upd (pre := (s.heap.objs.size, emptyDict) :: pre) (post := post) (d := x) (o := excO C tp none) (o' := excO C tp (some s.heap.objs.size)) (f := fun o => { o with dict := some s.heap.objs.size }) F1 N1
    (fun p hp => by rcases List.mem_cons.mp hp with rfl | hp; exact Ne.symm (Nat.ne_of_lt hlt); exact a p hp) b rfl rfl
  obtain ⟨F3, N3⟩ := news_upd (pre := []) (post := pre ++ (x, excO C tp (some s.heap.objs.size)) :: post) (d := s.heap.objs.size) (o := emptyDict) (o' := dictOf [⟨PyData.keyHash w.params name, .str name (s.toks + 1), v⟩] 1)
    (f := Obj.putName name (PyData.keyHash w.params name) (.str name (s.toks + 1)) v) F2 N2 (fun _ h => nomatch h)
    (fun p hp => by
      rcases List.mem_append.mp hp with hp | hp
      · exact hlt' p (List.mem_append_left _ hp)
      · rcases List.mem_cons.mp hp with rfl | hp
        · exact Nat.ne_of_lt hlt
        · exact hlt' p (List.mem_append_right _ (.tail _ hp)))
    (putName_dict _ _ _ _ [] 0) rfl
  refine exc_store0 (s := { s with toks := s.toks + 1 }) X hx.1 hc hd ⟨rfl, h s.heap.objs.size _ F3 ?_ fun p hp => Heap.lt_size (N p hp).1⟩
  rw [hg]
  exact N3

/-- an own exception in flight: its dict lies in B, and what the call had made -/
def RX (C : Addr) (base : Heap) (l : List Env) (e dx : Addr) (es : List DictEntry) (n : Nat) (news : List (Addr × Obj)) (h : Heap) : Prop :=
  ∃ B, base.StaysIn B ∧ (∀ q ∈ (dx, dictOf es n) :: news, B.get? q.1 = some q.2 ∧ base.get? q.1 = none) ∧ XF B l e C (some dx) .none h
end
section
variable {M : Model} {A : Around} {E : Value → Shared → Prop} {s' : Shared} {base g g₂ : Heap} {outer : List Env} {L a e dx tp C : Addr} {m : Str → Option Value} {name : Str} {scope : Scope} {cd : Value} {Q : Unit → Shared → Prop} {news all : List (Addr × Obj)} {es : List DictEntry} {n : Nat}
theorem leave_RX0 (K : Below A base outer g) (F : Fr g L s'.heap m) (N : News g L s'.heap ((dx, dictOf es n) :: (e, excO C tp (some dx)) :: news)) (hne : @Ne Nat dx e) (hoff : ∀ q ∈ news, q.1 ≠ e)
    (hQ : ∀ h', RX C base outer e dx es n news h' → g.UpToSlots h' → Q () { s' with heap := h' }) (hk : scope.kind = .function := by rfl) :
    wpAny M (A.deeper (envOf name scope L a cd)) (leaving (envOf name scope L a cd) (.ref e)) Q E s' := by
  have he : (e, excO C tp (some dx)) ∈ (dx, dictOf es n) :: (e, excO C tp (some dx)) :: news := .tail _ (.head _)
  have K' := K.push (name := name) (a := a) (cd := cd) F hk
  have hin : ∀ env ∈ (envOf name scope L a cd :: outer), ∀ b, env.frame = some b → b ∈ e :: (envOf name scope L a cd :: outer).filterMap (·.frame) := fun env he b hb => .tail _ (List.mem_filterMap.mpr ⟨env, he, hb⟩)
  have hene : ∀ b o, (N (e, excO C tp (some dx)) he).2.2 = (N (e, excO C tp (some dx)) he).2.2 → base.get? b = some o → b ≠ e := fun b o _ q z => by
    have := fresh_of_stays K.stays (N _ he).2.2; rw [← z, q] at this; cases this
  have st : base.StaysIn (hideAll s'.heap (e :: (envOf name scope L a cd :: outer).filterMap (·.frame))) := fun b o q => hideAll_get _ (K'.stays b o q) fun hm => by
    rcases List.mem_cons.mp hm with z | hm
    · exact hene b o rfl q z
    · rw [(K'.frames.mem hm).1] at q; cases q
  have hl : ∀ q ∈ (dx, dictOf es n) :: (e, excO C tp (some dx)) :: news, q.1 ≠ e → (hideAll s'.heap (e :: (envOf name scope L a cd :: outer).filterMap (·.frame))).get? q.1 = some q.2 ∧ base.get? q.1 = none := fun q hq hqe => by
    refine ⟨hideAll_get _ (N q hq).1 fun hm => ?_, fresh_of_stays K.stays (N q hq).2.2⟩
    rcases List.mem_cons.mp hm with z | hm
    · exact hqe z
    · obtain ⟨env, he, hf⟩ := List.mem_filterMap.mp hm
      rcases List.mem_cons.mp he with rfl | he
      · exact (N q hq).2.1 (Option.some.inj hf).symm
      · obtain ⟨o, ho, _⟩ := (K.frames.mem (List.mem_filterMap.mpr ⟨env, he, hf⟩)).2
        rw [(N q hq).2.2] at ho; cases ho
  refine x_leave_first (base := hideAll s'.heap (e :: (envOf name scope L a cd :: outer).filterMap (·.frame))) (C := C) (dd := some dx) K'.stack (funFrames_hide K'.frames hin) rfl (N _ he).1 (fun b o q => of_hideAll _ q) (hideAll_none _ (.head _)) rfl fun h' x u => ?_
  refine hQ h' ⟨_, st, fun q hq => ?_, x⟩ ((Heap.UpToSlots.of_keeps F.keep).trans u)
  rcases List.mem_cons.mp hq with rfl | hq
  · exact hl _ (.head _) hne
  · exact hl q (.tail _ (.tail _ hq)) (hoff q hq)
theorem leave_RX1 (K : Below A base outer g) (F : Fr g L g₂ m) (R : RX C base (envOf name scope L a cd :: outer) e dx es n news s'.heap) (hsm : g₂.UpToSlots s'.heap)
    (hQ : ∀ h', RX C base outer e dx es n news h' → g.UpToSlots h' → Q () { s' with heap := h' }) :
    wpAny M (A.deeper (envOf name scope L a cd)) (leaving (envOf name scope L a cd) (.ref e)) Q E s' := by
  obtain ⟨B, hB, hl, x⟩ := R
  exact x_leave_next (Around.frames_deeper K.stack) rfl x fun h' x1 x2 => hQ h' ⟨B, hB, hl, x1⟩ ((Heap.UpToSlots.of_keeps F.keep).trans (hsm.trans x2))
end
section
variable {prog : Program} {w : World} {A₀ : Around} {E : Value → Shared → Prop} {s' : Shared} {K : Frag} {h₀ h : Heap} {outer : List Env} {L a e dx C : Addr} {m : Str → Option Value} {name : Str} {scope : Scope} {cd : Value}
  {b₀ : Stmt} {suite : List Stmt} {pos np : Pos} {rest : List ExceptHandler} {Q : Flow → Shared → Prop} {news : List (Addr × Obj)} {es : List DictEntry} {n0 : Nat} {n x : Str}
  {p : Program} {loose : List Str} {mg mb : Str → Option Value}
  {nm q : Str} {N9 : Addr} {bs bm : List Value} {hdct : Bool} {sn : List Str} {sub : List Value} {ab : Bool} {col : Option Bool} {dd : Option Addr} {k0 k1 k2 k3 k5 : Option Value} {newId : String}
theorem caught_RX {Lc : Addr} {oc : Obj} (hfr : A₀.frames = some outer) (F : h.Ns L m) (hab : h₀.objs.size ≤ L) (hsm : h.UpToSlots s'.heap) (R : RX C h₀ (envOf name scope L a cd :: outer) e dx es n0 news s'.heap)
    (hLc : h.get? Lc = some oc) (hnf : ∀ vs, oc.data ≠ .fields vs) (hLne : Lc ≠ L) (hLb : h₀.get? Lc = none)
    (X : K.In h₀) (T : TopRead p loose mg mb h₀) (hx : nsIn K mainGlobals x = some (some (.ref C)))
    (hC : K.lookup C = some (excClassObj nm q C N9 bs bm hdct sn sub ab col dd k0 k1 k2 k3 k5 newId)) (hbase : bm.contains (.type "BaseException") = true)
    (k : ∀ h' tk vs sl, Fr h₀ L h' (fun y => if y = n then some (.ref e) else m y) → News h₀ L h' ((Lc, { oc with slots := sl }) :: (dx, dictOf es n0) :: (e, excV C vs (some dx)) :: news) →
      wpAny (model prog w) ((A₀.deeper (envOf name scope L a cd)).mark (some (.ref e))) (execs (b₀ :: suite) (envOf name scope L a cd))
        (fun f s₄ => wpAny (model prog w) (A₀.deeper (envOf name scope L a cd)) (do bindName (envOf name scope L a cd) n .none; unbindBehindTheSuite (envOf name scope L a cd) n pos) (fun _ s₅ => Q f s₅) E s₄)
        (AsSuiteRaised (model prog w) ((A₀.deeper (envOf name scope L a cd)).mark (some (.ref e))) (envOf name scope L a cd) n pos (notedBy (model prog w) ((A₀.deeper (envOf name scope L a cd)).mark (some (.ref e))) (envOf name scope L a cd) (cameBackBy (model prog w) (A₀.deeper (envOf name scope L a cd)) (envOf name scope L a cd) E)))
        { s' with heap := h', toks := tk })
    (hk : scope.kind = .function := by rfl) (hlo : (envOf name scope L a cd).kindOf n = some .local := by rfl) (hxg : (envOf name scope L a cd).kindOf x = some .globalImplicit := by rfl) (hd : (x == ("__debug__" : Str)) = false := by decide) :
    wpAny (model prog w) (A₀.deeper (envOf name scope L a cd)) (noteFrame (.ref e) (envOf name scope L a cd))
      (fun _ s₂ => wpAny (model prog w) (A₀.deeper (envOf name scope L a cd)) (setFlight (.ref e) none) (fun _ s₃ =>
        wpAny (model prog w) (A₀.deeper (envOf name scope L a cd)) (handleBy (.ref e) (envOf name scope L a cd) (.ExceptHandler (some (.Name x np)) (some n) (b₀ :: suite) pos :: rest)) Q E s₃) E s₂) E s' := by
  obtain ⟨B, hB, hl, hfl⟩ := R
  have hL : B.get? L = none := by
    obtain ⟨_, ⟨L', _, hf, hn', _⟩, _⟩ := hfl.2.2.1
    obtain rfl : L = L' := Option.some.inj hf
    exact hn'
  refine x_next (Around.frames_deeper hfr) rfl hfl fun h₄ x₄ u₄ => ?_
  refine x_flight x₄ fun h₅ x₅ u₅ => ?_
  have st : ∀ {h' : Heap}, B.StaysIn h' → h₀.StaysIn h' := fun kk b o q => kk b o (hB b o q)
  have u5 := hsm.trans (u₄.trans u₅)
  have F₅ : Fr h₀ L h₅ m := ⟨u5.ns F, st x₅.1, hab⟩
  obtain ⟨vs, T9, oT, ts, he, _⟩ := x₅.2.2.2
  have X₅ : K.In h₅ := X.keeps F₅.keep
  refine wpAny_handleBy_cons (codeAny_handlers_test (name_K F₅ X T hx ?_ hk hxg hd)) (by intro q; cases q)
  refine wpAny_excMatches_sub_self (X₅ _ _ hC) he rfl hbase (codeAny_handlers_suite_as ?_)
  refine x_flight x₅ fun h₆ x₆ u₆ => ?_
  have F₆ : Fr h₀ L h₆ m := ⟨(u5.trans u₆).ns F, st x₆.1, hab⟩
  obtain ⟨vs', T9', oT', ts', he', _⟩ := x₆.2.2.2
  obtain ⟨sl, hsl⟩ := (u5.trans u₆) Lc oc hLc hnf
  have Nl : News h₀ L h₆ ((Lc, { oc with slots := sl }) :: (dx, dictOf es n0) :: (e, excV C vs' (some dx)) :: news) := by
    have one : ∀ q ∈ (dx, dictOf es n0) :: news, h₆.get? q.1 = some q.2 ∧ q.1 ≠ L ∧ h₀.get? q.1 = none := fun q hq => ⟨x₆.1 _ _ (hl q hq).1, (fun z => by have := (hl q hq).1; rw [z, hL] at this; cases this), (hl q hq).2⟩
    intro q hq
    rcases List.mem_cons.mp hq with rfl | hq
    · exact ⟨hsl, hLne, hLb⟩
    · rcases List.mem_cons.mp hq with rfl | hq
      · exact one _ (.head _)
      · rcases List.mem_cons.mp hq with rfl | hq
        · refine ⟨he', fun z => ?_, fresh_of_stays hB x₆.2.1⟩
          obtain ⟨oL, es, ep, hLo, hLd, _⟩ := F₆.ns
          have z' : e = L := z
          rw [← z', he'] at hLo
          cases hLo
          cases hLd
        · exact one _ (.tail _ hq)
  exact stN F₆ Nl (fun h₇ F₇ N₇ => k h₇ _ _ _ F₇ N₇) hk hlo
end
section
variable {prog : Program} {w : World} {A : Around} {E : Value → Shared → Prop} {K : Frag} {s : Shared} {h₀ : Heap} {L C x dx : Addr} {m : Str → Option Value} {news : List (Addr × Obj)} {name : Str}
theorem exc_get_K {v : Value} {vs : Array Value} {es : List DictEntry} {n : Nat} {cd : ClassData} {expr : Bool} {Q : Value → Shared → Prop} (F : Fr h₀ L s.heap m) (X₀ : K.In h₀) (N : News h₀ L s.heap news)
    (hx : (x, excV C vs (some dx)) ∈ news) (hD : (dx, dictOf es n) ∈ news) (hl : getL name es = some (some v)) (hh : handedIn v = true)
    (hc : clsIn K C = some cd) (hd : cd.hasDict = true) (hn : findIn K (.ref C) name = some none) (hsub : subIn K (.ref C) (.type "BaseException") = some true)
    (hga : findIn K (.ref C) "__getattribute__" = some (some (.builtin "BaseException.__getattribute__"))) (hgt : findIn K (.ref C) "__getattr__" = some none)
    (hq : Q v { s with toks := s.toks + 1 }) : wpAny (model prog w) A (getAttr (.ref x) name expr) Q E s := by
  obtain ⟨hh', g, d, t, os⟩ := s
  exact exc_get (X₀.keeps F.keep) (N _ hx).1 (N _ hD).1 hl hh hc hd hn hsub hga hgt hq
end
theorem raise_exc_K {prog : Program} {w : World} {A : Around} {E : Value → Shared → Prop} {K : Frag} {s : Shared} {C : Addr} {env : Env} {h₀ : Heap} {e : PySem.Expr} {pos : Pos} {Q : Flow → Shared → Prop} (_X : K.In h₀) (hh : A.handled = none) (hsub : subIn K (.ref C) (.type "BaseException") = some true) (hty : typeIn K (.ref C) = some (.type "type"))
    (h : wpAny (model prog w) A (eval e env) (fun v s₁ => ∃ x tp dd, v = .ref x ∧ K.In s₁.heap ∧ s₁.heap.get? x = some (excO C tp dd) ∧ E (.ref x) s₁) E s) :
    wpAny (model prog w) A (exec (.Raise (some e) none pos) env) Q E s := raise_exc hh hsub hty h
section
variable {prog : Program} {w : World} {A A₀ : Around} {s : Shared} {K : Frag} {L : Addr} {h₀ base : Heap} {m mg mb : Str → Option Value} {news : List (Addr × Obj)} {p : Program} {loose : List Str} {mean : ExcName → Option Value}
theorem code_def_T {env : Env} {outer : List Env} {R : Result → Shared → Prop} {name qual : Str} {params : Arguments} {body : List Stmt} {scope : Scope} {dV kV doc pm cdv ct oc : Value} {an od : Option Addr} {osl : Array (Option Value)} {f : Addr} {args : Args} {binds : List (Str × Value)}
    (B : Below A₀ base outer h₀) (F : Fr h₀ L s.heap m) (X₀ : K.In h₀) (N : News h₀ L s.heap news) (T : Top p loose mean mg mb h₀) (hA : A.frames = some (env :: outer)) (hf : env.frame = some L) (hke : env.scope.kind = .function)
    (ho : K.lookup f = some ⟨oc, od, .func (fnOf name qual params body scope dV kV doc pm an cdv ct), osl⟩) (hcd : codeIn K cdv qual = true) (hroom : A.depth < recursionLimit)
    (hbind : BindsTo s (fnOf name qual params body scope dV kV doc pm an cdv ct) args binds) (hloc : ∀ y ∈ binds, scope.names.lookup y.1 = some .local)
    (h : ∀ g L' h₁, Fr h₀ L g m → Fr g L' h₁ (fun y => binds.reverse.lookup y) → News g L' h₁ news → Below A base (env :: outer) g → K.In g → Top p loose mean mg mb g →
      wpAny (model prog w) (A.deeper (envOf qual scope L' f cdv)) (execs body (envOf qual scope L' f cdv))
        (fun fl s' => R (.ok (.ret (match fl with | .ret v => v | _ => .none))) s')
        (fun e s' => wpAny (model prog w) (A.deeper (envOf qual scope L' f cdv)) (leaving (envOf qual scope L' f cdv) e) (fun _ s'' => R (.error e) s'') (fun e' s'' => R (.error e') s'') s')
        { s with heap := h₁, toks := s.toks + binds.length })
    (hco : scope.isCoroutine = false) (hgen : scope.isGenerator = false) (hk : scope.kind = .function)
    (hcell : ∀ x ∈ scope.names, x.2 ≠ .cell) : codeAny (model prog w) A (.call (.ref f) args) R s := by
  obtain ⟨FG, BG, st, lv⟩ := groundX (R := R) B F N hA hf hke
  refine codeAny_call_def (fd := fnOf name qual params body scope dV kV doc pm an cdv ct) (body := body) (binds := binds) hroom ((X₀.keeps F.keep) _ _ ho) rfl (T.nolimit.keeps F.keep) (codeRec_of (X₀.keeps F.keep) hcd) rfl hbind hcell hloc (fun h₁ hns hk₁ => ?_) hco hgen hk
  exact h _ s.heap.objs.size h₁ FG ⟨hns, fun b o e => hk₁ b o (of_hideAll _ e), Nat.le_of_eq (hideAll_size _ _)⟩
    (fun p hp => ⟨hk₁ _ _ (N p hp).1, Nat.ne_of_lt (Heap.lt_size (N p hp).1), hideAll_none _ (List.mem_map_of_mem hp)⟩) BG (X₀.keeps st) (T.keeps st)
theorem back_normal {g h' : Heap} {L' : Addr} {m' : Str → Option Value} {news' : List (Addr × Obj)} (FG : Fr h₀ L g m) (F' : Fr g L' h' m') (N' : News g L' h' news') : Fr h₀ L h' m ∧ News h₀ L h' news' := by
  obtain ⟨oL, es, ep, hL, r⟩ := FG.ns
  refine ⟨⟨⟨oL, es, ep, F'.keep _ _ hL, r⟩, fun b o e => F'.keep _ _ (FG.keep b o e), FG.above⟩, fun p hp => ⟨(N' p hp).1, fun q => ?_, ?_⟩⟩
  · have := (N' p hp).2.2; rw [q, hL] at this; cases this
  · cases q : h₀.get? p.1 with
    | none => rfl
    | some o => have := (N' p hp).2.2; rw [FG.keep _ _ q] at this; cases this
theorem back_caught {h' : Heap} {L' : Addr} {m' : Str → Option Value} {oL : Obj} {news' : List (Addr × Obj)} (hab : h₀.objs.size ≤ L) (hoL : LCg.NsObj oL m) (F' : Fr h₀ L' h' m') (N' : News h₀ L' h' ((L, oL) :: news')) (hne : ∀ p ∈ news', p.1 ≠ L) : Fr h₀ L h' m ∧ News h₀ L h' news' :=
  ⟨⟨hoL.ns (N' _ (.head _)).1, F'.keep, hab⟩, fun p hp => ⟨(N' p (.tail _ hp)).1, hne p hp, (N' p (.tail _ hp)).2.2⟩⟩
end
end Mine
end PExc4
section PComps
open PySem PySem.W PyProof.Rows PySem.Calls PySem.Spec
set_option maxRecDepth 100000
set_option maxHeartbeats 8000000
namespace Mine
section
variable {prog : Program} {w : World} {A : Around} {E : Value → Shared → Prop} {s : Shared} {h₀ : Heap} {L : Addr} {m : Str → Option Value} {env : Env} {elt iter : PySem.Expr} {x : Str} {scope : Scope} {cl : List (Str × Addr)}
  {S : List (Addr × Obj) → Prop} {P : Nat → Value → Prop} {Fin : List Value → List (Addr × Obj) → Prop} {news : List (Addr × Obj)}
theorem comp_gen_from (n : Nat) (J : Nat → List Value → List (Addr × Obj) → Prop)
    (turn : ∀ i ys news v I oI C oC D m₂ h tk (E' : Value → Shared → Prop), i < n → J i ys news → P i v → LCg.NsObj oC m₂ → m₂ x = some v → Fr h₀ L h m → News h₀ L h ((I, oI) :: (C, oC) :: (D, LCg.lst ys) :: news) → LCg.Off3 I C D news → ((@Ne Nat I C) ∧ (@Ne Nat I D) ∧ (@Ne Nat C D)) →
      wpAny (model prog w) A (eval elt (compEnvC scope cl C env)) (LCg.CompEnd h₀ L m { s with heap := h, toks := tk } I oI C oC D (LCg.lst ys) S (fun y news' => J (i + 1) (ys ++ [y]) news')) E' { s with heap := h, toks := tk })
    (fin : ∀ ys news, J n ys news → Fin ys news) :
    ∀ (k i : Nat) (ys : List Value) (news : List (Addr × Obj)), i + k = n → J i ys news → LCg.CompRest prog w A h₀ L m env elt x scope cl s S P Fin k i ys news
  | 0, i, ys, news, e, hj => LCg.CompRest.zero (fin ys news (by rw [← e]; exact hj))
  | k + 1, i, ys, news, e, hj => LCg.CompRest.succ fun v I oI C oC D m₂ h tk E' hP hC hx F N off ne => by
    refine wpAny_mono (turn i ys news v I oI C oC D m₂ h tk E' (by omega) hj hP hC hx F N off ne) (fun y s₂ hend => ?_) fun _ _ q => q
    obtain ⟨h', tk', news', e1, F', N', off', hS, hJ⟩ := hend
    exact ⟨h', tk', news', e1, F', N', off', hS, comp_gen_from n J turn fin k (i + 1) (ys ++ [y]) news' (by omega) hJ⟩
theorem comp_gen {n : Nat} (J : Nat → List Value → List (Addr × Obj) → Prop) (h0 : J 0 [] news)
    (turn : ∀ i ys news v I oI C oC D m₂ h tk (E' : Value → Shared → Prop), i < n → J i ys news → P i v → LCg.NsObj oC m₂ → m₂ x = some v → Fr h₀ L h m → News h₀ L h ((I, oI) :: (C, oC) :: (D, LCg.lst ys) :: news) → LCg.Off3 I C D news → ((@Ne Nat I C) ∧ (@Ne Nat I D) ∧ (@Ne Nat C D)) →
      wpAny (model prog w) A (eval elt (compEnvC scope cl C env)) (LCg.CompEnd h₀ L m { s with heap := h, toks := tk } I oI C oC D (LCg.lst ys) S (fun y news' => J (i + 1) (ys ++ [y]) news')) E' { s with heap := h, toks := tk })
    (fin : ∀ ys news, J n ys news → Fin ys news) : LCg.CompRest prog w A h₀ L m env elt x scope cl s S P Fin n 0 [] news := comp_gen_from n J turn fin n 0 [] news (Nat.zero_add n) h0

theorem striter_st {I : Addr} {X : Str} {t : Tok} : ∀ i (h h' : Heap) (o : Obj) (nw : List (Addr × Obj)), h.IsStrIter I "str_ascii_iterator" X t i → h.get? I = some o → h'.get? I = some o → (∀ b o, h₀.get? b = some o → h'.get? b = some o) → News h₀ L h' nw → True → h'.IsStrIter I "str_ascii_iterator" X t i :=
  fun i h h' o nw st e e' _ _ _ => by obtain ⟨o', q, r⟩ := st; rw [e] at q; cases q; exact ⟨o, e', r⟩
theorem ListComp_S {px : Pos} {pos : Pos} {Q : Value → Shared → Prop}
    (hclos : closureFor scope env = pure cl) (hcell : ∀ y ∈ scope.names, y.2 ≠ .cell) (hkind : scope.kind = .function)
    (hnames : ∀ y ∈ scope.names, y.2 = .local → scope.names.lookup y.1 = some .local) (hx : scope.names.lookup x = some .local)
    (h : wpAny (model prog w) A (eval iter env) (fun xv s₁ => ∃ X t news, xv = .str X t ∧ X.cps.all (· < 128) = true ∧ A.handled = none ∧ Fr h₀ L s₁.heap m ∧ News h₀ L s₁.heap news ∧ X.cps.size ≤ sizeLine ∧
      ∀ g, LCg.CompRest prog w A h₀ L m env elt x scope cl { s₁ with heap := g } (fun _ => True) (SignAt X) (LCg.FinE h₀ L m { s₁ with heap := g } Q) X.cps.size 0 [] news) E s)
    (hs : ∀ x, foldedSetIterable iter env x = pure x := by intro _; rfl) :
    wpAny (model prog w) A (eval (.ListComp elt [⟨.Name x px, iter, [], 0⟩] scope pos) env) Q E s := by
  rw [eval_ListComp]
  refine wpAny_comprehension_free (use := none) rfl hs hclos hkind hnames (wpAny_mono h (fun xv s₁ h₁ => ?_) fun _ _ e => e)
  obtain ⟨X, t, news, rfl, ha, hh, F, N, hsz, R⟩ := h₁
  refine wpAny_pyIter_ascii ha ?_
  refine LCg.block_U (Walks.strAscii hh s₁.heap.objs.size X t) hsz (fun i h st => by obtain ⟨o, e, _⟩ := st; exact ⟨o, e⟩) striter_st hcell hkind hx ⟨_, Heap.get?_push_size _ rfl, rfl, rfl⟩ (fun b hb => ?_)
    (F.keeps fun _ _ e => Heap.get?_push_of_some _ e) (N.grown fun _ _ e => Heap.get?_push_of_some _ e) (Nat.ne_of_lt F.ns.lt) (next_is_new F) (fun p hp => Nat.ne_of_lt (Heap.lt_size (N p hp).1)) trivial (R _) ?_
  · rw [List.mem_singleton.mp hb]
    show s₁.heap.objs.size < (s₁.heap.push _).objs.size
    rw [Heap.size_push]; exact Nat.lt_succ_self _
  · intro D C h tk m' ys news' F' N' o1 hn hC₀ hD₀ hCL hDL hCD offC fin
    refine ⟨m', hn, fun h'' hs'' => fin D h'' tk (F'.change hs'' hCL hC₀) (fun p hp => ?_) o1⟩
    refine ⟨hs''.extBut _ _ ?_ (N' p hp).1, (N' p hp).2⟩
    rcases List.mem_cons.mp hp with rfl | hp
    · exact Ne.symm hCD
    · exact offC p hp
end
end Mine
end PComps
open PySem PySem.W PyProof.Rows PySem.Calls PySem.Spec
set_option maxRecDepth 100000
set_option maxHeartbeats 8000000
namespace Mine
local macro_rules | `(tactic| k_room) => `(tactic| ktr_room)
local macro_rules | `(tactic| k_lt $h:ident) => `(tactic| skip)
local macro_rules | `(tactic| k_ne) => `(tactic| (refine neN ?_; first | assumption | exact Ne.symm (by assumption) | exact Nat.ne_of_lt (by assumption) | exact Nat.ne_of_gt (by assumption) | (refine' ne_in1 ?h ?m; (case h => assumption); (case m => k_mem)) | (refine' ne_in2 ?h ?m; (case h => assumption); (case m => k_mem)) | (refine' ne_in3 ?h ?m ?e; (case e | h => assumption); (case m => k_mem)) | (refine' ne_in4 ?h ?m ?e; (case e | h => assumption); (case m => k_mem)) | ((try dsimp only); omega)))
local macro_rules | `(tactic| k_all) => `(tactic| first | assumption | (refine' all_in ?h ?m; (case h => assumption); (case m => (intro p9 hp9; repeat (first | exact hp9 | apply List.Mem.tail)))) | (refine' all_in3 ?h ?m ?e; (case e | h => assumption); (case m => (intro p9 hp9; repeat (first | exact hp9 | apply List.Mem.tail)))))
local macro_rules | `(tactic| walk_at "eval Name") => `(tactic| (k_here; (with_reducible show wpAny _ _ (eval (PySem.Expr.Name _ _) (envOfC _ _ _ _ _)) _ _ _); (with_reducible refine' ldLoc ?k1 ?k2 ?_ ?k3 ?k4 ?k5); (case k1 => with_reducible assumption); (case k2 => k_dflt (first | rfl | assumption)); (case k3 | k4 => k_dflt rfl); (case k5 => decide)))
local macro_rules | `(tactic| walk_at "call ref") => `(tactic| (k_here; (with_reducible show wpAny _ _ (call (Value.ref 475) [Value.ref _, Value.int _ _]) _ _ _); k_dflt (refine' draw_use ?k1 ?k2 ?k3 ?k4 ?k5 ?k6 ?k7 ?k8 ?k9 ?k10 ?k11 ?k12 ?k13 ?k14 ?k15 ?k16 ?_; (case k1 | k2 | k3 | k4 | k5 => k_asm); (case k6 => first | rfl | assumption); (case k7 | k8 => k_mem); (case k9 => k_ne); (case k10 | k11 | k12 | k13 | k15 => first | assumption | decide | omega | l_fact); (case k14 => l_ints); (case k16 => ktr_room); k_whole); intro r' t' h' tk' t2' hr0' hr1' F' N0'; (have N' := N0' _ (by k_dflt k_upd)); clear N0'; (try k_sweep)))
section GTold
theorem fill_Told : True := by w_top off; trivial
local macro_rules | `(tactic| walk_at "exec Raise some none") => `(tactic| (k_here; k_dflt (refine' raise_exc_K (C := 38) ?x ?a ?b ?c ?_; (case x => k_asm); (case a => rfl); (case b | c => k_is))))
local macro_rules | `(tactic| walk_at "call ref") => `(tactic| (k_here; (with_reducible show wpAny _ _ (call (Value.ref 38) _) _ _ _); k_dflt (refine wpAny_call ?_; refine' exc_make_K ?k1 ?k2 ?k3 ?k4 PySem.F.excBase_Exception ?k5 ?k6 ?k7 ?_; (case k1 | k2 | k3 => k_asm); (case k4 | k5 | k6 => k_is); (case k7 => exact Nat.le_of_ble_eq_true rfl); k_whole; intro x' tp' h' F' N' l1 l2; (try k_lt l1); (try k_lt2 l2); (try k_sweep); k_enter)))
local macro_rules | `(tactic| walk_at "setAttr ref") => `(tactic| (k_here; k_dflt (first | (refine' exc_set_K0 ?k1 ?k2 ?k3 ?k4 ?k5 ?k6 ?k7 ?k8 ?k9 ?_; (case k1 | k2 | k3 => k_asm); (case k4 => k_updF); (case k5 | k6 => k_is); (case k7 | k8 => rfl); (case k9 => k_is); k_whole; intro dx' h' F' N' l1; (try k_lt l1); (try dsimp only at N'); (try k_sweep)) | (refine' exc_set_K1 ?k1 ?k2 ?k3 ?k4 ?k5 ?k6 ?k7 ?k8 ?k9 ?k10 ?k11 ?k12 ?k13 ?_; (case k1 | k2 | k3 => k_asm); (case k4 => k_mem); (case k5 | k6 => k_is); (case k7 | k8 => rfl); (case k9 => k_is); (case k13 => k_upd); (case k10 => k_get); (case k11 => exact Nat.le_of_ble_eq_true rfl); (case k12 => k_put); k_whole; intro h' F' N'; (try k_sweep)))))
local macro_rules | `(tactic| walk_at "Exists") => `(tactic| (k_here; (refine ⟨_, _, _, rfl, by k_in, News.get (by k_asm) (by k_mem), ?_⟩)))
local macro_rules | `(tactic| walk_at "leaving ref") => `(tactic| (k_here; k_dflt (first | (refine' leave_RX1 ?k1 ?k2 ?k3 ?k4 ?_; (case k3 | k1 | k4 | k2 => assumption); k_whole; intro h' R' U'; (try dsimp only at R' U' ⊢)) | (refine' leave_RX0 ?k1 ?k2 ?k3 ?k4 ?k5 ?_; (case k1 | k2 => assumption); (case k3 => k_asm); (case k4 => k_ne); (case k5 => k_all); k_whole; intro h' R' U'; (try dsimp only at R' U' ⊢)))))
local macro_rules | `(tactic| walk_at "getAttr ref") => `(tactic| (k_here; k_dflt (refine' exc_get_K ?k1 ?k2 ?k3 ?k4 ?k5 ?k6 ?k7 ?k8 ?k9 ?k10 ?k11 ?k12 ?k13 ?_; (case k1 | k2 | k3 => k_asm); (case k4 | k5 => k_mem); (case k6 => k_get); (case k7 => k_handed); (case k8 => k_is); (case k9 => rfl); (case k10 | k11 | k12 | k13 => k_is); k_whole)))
section
variable {w : World} {loose : List Str} {mean : ExcName → Option Value} {mg mb : Str → Option Value} {H0 : Heap} {L fa dk di : Addr} {cd : Value} {m : Str → Option Value} {s : Shared} {E : Value → Shared → Prop} {Q : Flow → Shared → Prop}
  {o : Obj} {n1 : Nat} {ys : List Value} {ds : List Int} {k : Int} {t : Tok} {one text other : Str} {t1 t2 t3 : Tok}


variable {bx bd tx td mk md lr lc dr : Addr} {tt uu tt' uu' : Nat → Tok} {nm : Str} {t9 : Tok} {zs cs : List Value} {zi ci : List Int} {n2 n3 n4 : Nat} {orow : Obj} {i1 i2 : Int} {t4 t5 : Tok} {pt bg zv c1 c2 g1 : Int}

theorem told_bad {dp un : Nat} {gd : Option (List Code)} {cn : Str} {cs : Scope} {a : Addr} {ccd : Value} {cl : List (Str × Addr)} {outer : List Env} {A₀ : Around} {h₀ : Heap} {news : List (Addr × Obj)} {Q : Value → Shared → Prop}
    (B : Below A₀ h₀ outer h₀) (F : Fr h₀ L s.heap m) (X : (Mine.hd.heap_39 w.params).In h₀) (N : News h₀ L s.heap ((bx, instObj 459 bd) :: (bd, dictOf (bufD w.params tt' uu' nm tx mk lr pt bg zv c1 c2) 20) :: news)) (T : Top Mine.hd.view_39 loose mean mg mb h₀) (hk : cs.kind = .function)
    (hd : dp + 8 < recursionLimit) (hbad : min i1 i2 < bg ∨ zv < max i1 i2)
    (hret : ∀ l h' tk' n t, Fr h₀ L h' m → News h₀ L h' ((l, listOf #[.str (Str.ofString "args-out-of-range") t] n) :: news) → (∀ p ∈ news, p.1 < l) → Q (.ref l) { s with heap := h', toks := tk' }) :
    wpAny (model PR w) (ktrTop dp un gd cn cs L a ccd cl outer) (call (.ref 487) [.ref bx, .int i1 t4, .int i2 t5]) Q E s := by
  refine wpAny_call ?_
  k_dflt (refine' code_def_T ?k1 ?k2 ?k3 ?k4 ?k5 ?kA ?kF ?kK ?k6 ?k7 ?k8 ?k9 ?kB ?_ ?c2 ?c3 ?c4 ?c5; (case kA => exact rfl); (case kF => exact rfl); (case kK => assumption); (case k1 => k_asm); (case k2 => k_asm); (case k3 => k_asm); (case k4 => k_asm); (case k5 => k_asm); (case k6 => k_is); (case k7 => k_is); (case k8 => ktr_room); (case k9 => exact BindsTo.of_eq rfl); (case c5 => decide); (case kB => exact locs rfl); (case c2 => exact rfl); (case c3 => exact rfl); (case c4 => exact rfl); k_whole; intro g' L' h' FG' F' N' B' X' T'; (try dsimp only); (try k_fold))
  k_steps
  all_goals (
    have hLlt : L < g'.objs.size := FG'.ns.lt
    have hgL : g'.objs.size ≤ L' := F'.above
    have hab : h₀.objs.size ≤ L' := Nat.le_trans FG'.above (Nat.le_trans (Nat.le_of_lt hLlt) hgL)
    obtain ⟨oL, es9, ep9, hLo, hLd, hLr⟩ := FG'.ns
    k_dflt (refine' caught_RX (K := Mine.hd.heap_39 w.params) (Lc := L) (oc := oL) ?hfr ?F ?hab ?hsm ?R ?hLc ?hnf ?hLne ?hLb ?X ?T ?hx ?hC ?hb ?_; (case hfr => exact rfl); (case R => assumption); (case hsm => assumption); (case F => exact Fr.ns (by assumption)); (case hab => exact hab); (case hLc => exact Fr.keep (by assumption) _ _ hLo); (case hnf => (rw [hLd]; intro _ q; cases q)); (case hLne => exact Nat.ne_of_lt (Nat.lt_of_lt_of_le hLlt hgL)); (case hLb => exact Heap.get?_none_of_le FG'.above); (case X => exact X); (case T => k_asm); (case hx => k_is); (case hC => k_is); (case hb => rfl))
    intro h'' tk'' vs'' sl'' F'' N'')
  k_steps
  all_goals (
    rename_i l9 _ _ _ l1' _ _ hF hN
    have hlt : ∀ p ∈ news, p.1 < l9 := fun p hp => l1' p (by repeat (first | exact hp | apply List.Mem.tail))
    have hLl : L < l9 := l1' _ (.head _)
    have key := back_caught (L := L) (m := m) (oL := { oL with slots := sl'' }) (news' := _ :: news) FG'.above ⟨es9, ep9, hLd, hLr⟩ hF
      (List.forall_mem_cons.mpr ⟨hN _ (.tail _ (.head _)), List.forall_mem_cons.mpr ⟨hN _ (.head _), fun p hp => hN p (by repeat (first | exact hp | refine List.Mem.tail _ ?_))⟩⟩)
      (List.forall_mem_cons.mpr ⟨Ne.symm (Nat.ne_of_lt hLl), fun p hp => (N p (.tail _ (.tail _ hp))).2.1⟩)
    exact hret _ _ _ _ _ key.1 key.2 hlt)
end
end GTold
section GOrd
theorem fill_Ord : True := by w_top off; trivial

abbrev codes (X : Str) : List Int := X.cps.toList.map Int.ofNat
abbrev ordScope : Scope := { kind := .function, names := [(Str.ofString ".0", .local), (Str.ofString "sign", .local), (Str.ofString "ord", .globalImplicit)], isGenerator := false, isCoroutine := false, more := [] }
section
variable {w : World} {loose : List Str} {mean : ExcName → Option Value} {mg mb : Str → Option Value} {H0 : Heap} {L fa : Addr} {cd : Value} {m : Str → Option Value} {s : Shared} {E : Value → Shared → Prop} {news : List (Addr × Obj)}
theorem ord_comp {X : Str} {t : Tok} {y : Str} {p1 p2 p3 px py pos : Pos} {Q : Value → Shared → Prop}
   (F : Fr H0 L s.heap m) (K : (Mine.hd.heap_39 w.params).In H0) (T : Top Mine.hd.view_39 loose mean mg mb H0) (N : News H0 L s.heap news)
   (hy : wpAny (model PR w) (lawA L fa cd) (eval (.Name y py) (lawE L fa cd)) (fun v s₁ => v = .str X t ∧ s₁ = s) E s) (ha : X.cps.all (· < 128) = true) (hsz : X.cps.size ≤ 100)
   (hq : ∀ D ys h' tk', Fr H0 L h' m → News H0 L h' ((D, LCg.lst ys) :: news) → LCg.Off1 D news → IntsAre ys (codes X) → Q (.ref D) { s with heap := h', toks := tk' }) :
   wpAny (model PR w) (lawA L fa cd) (eval (.ListComp (.Call (.Name (Str.ofString "ord") p1) [.Name (Str.ofString "sign") p2] [] p3) [⟨.Name (Str.ofString "sign") px, .Name y py, [], 0⟩] ordScope pos) (lawE L fa cd)) Q E s := by
  refine ListComp_S (h₀ := H0) (L := L) (m := m) (cl := []) (by rfl) (by decide) (by rfl) (by decide) (by rfl) ?_
  refine wpAny_mono hy (fun v s₁ hv => ?_) fun _ _ e => e
  obtain ⟨rfl, rfl⟩ := hv
  refine ⟨X, t, news, rfl, ha, rfl, F, N, by rw [sizeLine_eq]; omega, fun g => ?_⟩
  refine comp_gen (fun i ys nw => nw = news ∧ IntsAre ys ((X.cps.toList.take i).map Int.ofNat)) ⟨rfl, .nil⟩ ?_ ?_
  · rintro i ys nw v I oI C oC D m₂ h tk E' hi ⟨rfl, hys⟩ ⟨c, u, hc, rfl⟩ hC hx F' N' off ne
    k_steps
    have hc' : X.cps.toList[i]? = some c := by rw [Array.getElem?_toList]; exact hc
    exact LCg.CompEnd.intro F' N' nw (fun _ h => h) off trivial ⟨rfl, by
      rw [List.take_succ, hc', List.map_append]
      exact ints_app hys (.cons _ _ .nil)⟩
  · rintro ys nw ⟨rfl, hys⟩ D h' tk' F' N' o1
    rw [← Array.length_toList, List.take_length] at hys
    exact hq D ys h' tk' F' N' o1 hys
end
abbrev InLit (lit x : Str) : Prop := ∀ c ∈ x.cps.toList, c ∈ lit.cps.toList
theorem fold_in (lit : Str) : ∀ (l : List Str) (acc : Array Nat), (∀ p ∈ l, p.length = 1 ∧ InLit lit p) → (∀ c ∈ acc.toList, c ∈ lit.cps.toList) →
    (∀ c ∈ (l.foldl (fun acc p => acc ++ (Str.ofString "").cps ++ p.cps) acc).toList, c ∈ lit.cps.toList) ∧ (l.foldl (fun acc p => acc ++ (Str.ofString "").cps ++ p.cps) acc).size = acc.size + l.length
  | [], acc, _, h => ⟨h, rfl⟩
  | p :: r, acc, hl, h => by
    have hp := hl p (.head _)
    have e0 : (Str.ofString "").cps = #[] := by decide
    obtain ⟨a, b⟩ := fold_in lit r (acc ++ (Str.ofString "").cps ++ p.cps) (fun q hq => hl q (.tail _ hq)) (by
      intro c hc
      rw [e0] at hc
      simp only [Array.append_empty, Array.toList_append, List.mem_append] at hc
      rcases hc with hc | hc
      · exact h c hc
      · exact hp.2 c hc)
    refine ⟨a, b.trans ?_⟩
    rw [e0]
    have : p.cps.size = 1 := hp.1
    simp only [Array.append_empty, Array.size_append, List.length_cons]
    omega
theorem join_in {lit : Str} {l : List Str} (h : ∀ p ∈ l, p.length = 1 ∧ InLit lit p) : InLit lit (Txt.join (Str.ofString "") l) ∧ (Txt.join (Str.ofString "") l).length = l.length := by
  cases l with
  | nil => exact ⟨fun c hc => by simp [Txt.join, Builtin.Str.glued, Str.empty] at hc, rfl⟩
  | cons p r =>
    have hp := h p (.head _)
    obtain ⟨a, b⟩ := fold_in lit r p.cps (fun q hq => h q (.tail _ hq)) hp.2
    refine ⟨a, ?_⟩
    show (r.foldl _ p.cps).size = _
    rw [b]
    have : p.cps.size = 1 := hp.1
    simp only [List.length_cons]; omega
theorem joinOk_ones {l : List Str} (h : ∀ p ∈ l, p.length = 1) (hn : l.length ≤ 100) : JoinOk (Str.ofString "") l = true := by
  unfold JoinOk
  rw [Bool.not_eq_true', PySem.StrLaws.joinTotal]
  have e : (l.map (·.length)).sum = l.length := by
    clear hn
    induction l with
    | nil => rfl
    | cons a r ih => rw [List.map_cons, List.sum_cons, ih fun p hp => h p (.tail _ hp), h a (.head _), List.length_cons]; omega
  rw [e]
  have z : (Str.ofString "").length = 0 := by decide
  rw [z]
  unfold Builtin.Str.tooLong
  simp only [decide_eq_false_iff_not, Nat.mul_zero, Nat.add_zero]
  first | omega | (rw [sizeLine_eq]; omega)
theorem item_in {lit : Str} {i : Int} (h0 : 0 ≤ i) (h1 : i < lit.length) : (Txt.item lit i).length = 1 ∧ InLit lit (Txt.item lit i) := by
  refine ⟨rfl, fun c hc => ?_⟩
  obtain ⟨n, rfl⟩ := Int.eq_ofNat_of_zero_le h0
  have hn : n < lit.cps.size := Int.ofNat_lt.mp h1
  simp only [Txt.item, List.mem_cons, List.not_mem_nil, or_false] at hc
  subst hc
  have e : Txt.charAt lit (n : Int) = some lit.cps[n] := by
    unfold Txt.charAt
    have e2 : seqIndex? (n : Int) lit.length = some n := by
      unfold seqIndex?
      have h2 : ¬ ((n : Int) < 0) := by omega
      simp only [if_neg h2, Bool.and_eq_true, decide_eq_true_eq]
      rw [if_pos ⟨h0, h1⟩]; rfl
    rw [e2]
    simp [hn]
  rw [e]
  exact List.mem_of_getElem (i := n) (h := by simpa using hn) (by simp)
structure DrawnJ (lit : Str) (base : Int) (dk di : Addr) (n1 : Nat) (rest : List (Addr × Obj)) (i : Nat) (zs : List Value) (nw : List (Addr × Obj)) : Prop where
  ex : ∃ l t2, zs = strValues l ∧ l.length = i ∧ (∀ p ∈ l, p.1.length = 1 ∧ InLit lit p.1) ∧ nw = (dk, listOf #[.ref di, .int (base + i) t2] n1) :: rest
theorem DrawnJ.zero {lit : Str} {base : Int} {dk di : Addr} {n1 : Nat} {rest : List (Addr × Obj)} {t2 : Tok} : DrawnJ lit base dk di n1 rest 0 [] ((dk, listOf #[.ref di, .int base t2] n1) :: rest) :=
  ⟨[], t2, rfl, rfl, by simp, by rw [show (base + ((0 : Nat) : Int)) = base by omega]⟩
theorem DrawnJ.snoc {lit : Str} {base : Int} {dk di : Addr} {n1 i : Nat} {rest : List (Addr × Obj)} {t2 t3 : Tok} {l : List (Str × Tok)} {r : Int} (hl : l.length = i) (hin : ∀ p ∈ l, p.1.length = 1 ∧ InLit lit p.1) (h0 : 0 ≤ r) (h1 : r < lit.length) :
    DrawnJ lit base dk di n1 rest (i + 1) (strValues l ++ [.str (Txt.item lit r) t3]) ((dk, listOf #[.ref di, .int (base + i + 1) t2] n1) :: rest) :=
  ⟨l ++ [(Txt.item lit r, t3)], t2, by simp [strValues], by simp [hl], by
    intro p hp
    rcases List.mem_append.mp hp with hp | hp
    · exact hin p hp
    · rw [List.mem_singleton.mp hp]; exact item_in h0 h1, by rw [show (base + ((i + 1 : Nat) : Int)) = base + i + 1 by omega]⟩
def foldI (f : Bool) (c : Int) : Int := if f && (decide (65 ≤ c) && decide (c ≤ 90)) then c + 32 else c
def cmpL : Nat → List Int → List Int → Int
  | _, [], [] => 0
  | i, [], _ :: _ => 0 - (i : Int) - 1
  | i, _ :: _, [] => (i : Int) + 1
  | i, a :: as, b :: bs => if a < b then 0 - (i : Int) - 1 else if b < a then (i : Int) + 1 else cmpL (i + 1) as bs
def cmpI (f : Bool) (as bs : List Int) : Int := cmpL 0 (as.map (foldI f)) (bs.map (foldI f))
theorem cmpL_self : ∀ (as : List Int) (i : Nat), cmpL i as as = 0
  | [], _ => rfl
  | a :: as, i => by
    unfold cmpL
    rw [if_neg (Int.lt_irrefl a), if_neg (Int.lt_irrefl a)]
    exact cmpL_self as _
theorem cmpL_anti : ∀ (as bs : List Int) (i : Nat), cmpL i bs as = 0 - cmpL i as bs
  | [], [], _ => rfl
  | [], _ :: _, i => by simp only [cmpL]; omega
  | _ :: _, [], i => by simp only [cmpL]; omega
  | a :: as, b :: bs, i => by
    have ih := cmpL_anti as bs (i + 1)
    unfold cmpL
    rcases Int.lt_trichotomy a b with h | h | h
    · rw [if_neg (by omega), if_pos h, if_pos h]; omega
    · subst h
      rw [if_neg (Int.lt_irrefl a), if_neg (Int.lt_irrefl a), if_neg (Int.lt_irrefl a), if_neg (Int.lt_irrefl a)]; exact ih
    · rw [if_pos h, if_neg (by omega), if_pos h]; omega
theorem cmpL_skip : ∀ (i : Nat) (as bs : List Int) (k : Nat), (∀ j, j < i → as.getD j 0 = bs.getD j 0) → i ≤ as.length → i ≤ bs.length → cmpL k as bs = cmpL (k + i) (as.drop i) (bs.drop i)
  | 0, as, bs, k, _, _, _ => rfl
  | i + 1, [], _, _, _, h, _ => by simp at h
  | i + 1, _ :: _, [], _, _, _, h => by simp at h
  | i + 1, a :: as, b :: bs, k, h, h1, h2 => by
    have e : a = b := h 0 (Nat.zero_lt_succ _)
    subst e
    have ih := cmpL_skip i as bs (k + 1) (fun j hj => by simpa using h (j + 1) (by omega)) (by simpa using h1) (by simpa using h2)
    rw [List.drop_succ_cons, List.drop_succ_cons, show k + (i + 1) = k + 1 + i by omega, ← ih, cmpL]
    rw [if_neg (Int.lt_irrefl a), if_neg (Int.lt_irrefl a)]
theorem foldI_zero (f : Bool) : foldI f 0 = 0 := by cases f <;> rfl
theorem getD_fold (f : Bool) (as : List Int) (i : Nat) : (as.map (foldI f)).getD i 0 = foldI f (as.getD i 0) := by
  simp only [List.getD_eq_getElem?_getD, List.getElem?_map]
  cases as[i]? with
  | none => exact (foldI_zero f).symm
  | some a => rfl
section
variable {f : Bool} {as bs : List Int} {i : Nat}
theorem cmpI_skip (h : ∀ j, j < i → foldI f (as.getD j 0) = foldI f (bs.getD j 0)) (h1 : i ≤ as.length) (h2 : i ≤ bs.length) : cmpI f as bs = cmpL i ((as.map (foldI f)).drop i) ((bs.map (foldI f)).drop i) := by
  unfold cmpI
  rw [cmpL_skip i _ _ 0 (fun j hj => by rw [getD_fold, getD_fold]; exact h j hj) (by simpa using h1) (by simpa using h2), Nat.zero_add]
theorem drop_at {as : List Int} (h1 : i < as.length) : (as.map (foldI f)).drop i = foldI f (as.getD i 0) :: (as.map (foldI f)).drop (i + 1) := by
  rw [List.drop_eq_getElem_cons (by simpa using h1), List.getElem_map]
  congr 2
  simp [List.getD_eq_getElem?_getD, h1]
theorem cmpI_lt (h : ∀ j, j < i → foldI f (as.getD j 0) = foldI f (bs.getD j 0)) (h1 : i < as.length) (h2 : i < bs.length) (hlt : foldI f (as.getD i 0) < foldI f (bs.getD i 0)) : 0 - (i : Int) - 1 = cmpI f as bs := by
  rw [cmpI_skip h (Nat.le_of_lt h1) (Nat.le_of_lt h2), drop_at h1, drop_at h2, cmpL, if_pos hlt]
theorem cmpI_gt (h : ∀ j, j < i → foldI f (as.getD j 0) = foldI f (bs.getD j 0)) (h1 : i < as.length) (h2 : i < bs.length) (hlt : foldI f (bs.getD i 0) < foldI f (as.getD i 0)) : (i : Int) + 1 = cmpI f as bs := by
  rw [cmpI_skip h (Nat.le_of_lt h1) (Nat.le_of_lt h2), drop_at h1, drop_at h2, cmpL, if_neg (by omega), if_pos hlt]
theorem cmpI_end (h : ∀ j, j < i → foldI f (as.getD j 0) = foldI f (bs.getD j 0)) (hi : i = min as.length bs.length) :
    cmpI f as bs = if as.length = bs.length then 0 else if as.length < bs.length then 0 - (i : Int) - 1 else (i : Int) + 1 := by
  rw [cmpI_skip h (by omega) (by omega)]
  by_cases e : as.length = bs.length
  · rw [if_pos e, List.drop_eq_nil_of_le (by simp; omega), List.drop_eq_nil_of_le (by simp; omega)]; rfl
  · rw [if_neg e]
    by_cases l : as.length < bs.length
    · rw [if_pos l, List.drop_eq_nil_of_le (by simp; omega), drop_at (by omega)]; rfl
    · rw [if_neg l, drop_at (by omega), List.drop_eq_nil_of_le (as := bs.map _) (by simp; omega)]; rfl
end
theorem fill_Fold1 : True := by w_top off; trivial
section
variable {w : World} {loose : List Str} {mean : ExcName → Option Value} {mg mb : Str → Option Value} {H0 : Heap} {L fa dk di : Addr} {cd : Value} {m : Str → Option Value} {s : Shared} {E : Value → Shared → Prop} {Q : Flow → Shared → Prop}
  {o : Obj} {n1 : Nat} {ys : List Value} {ds : List Int} {k : Int} {t : Tok} {one text other : Str} {t1 t2 t3 : Tok}


variable {bx bd tx td mk md lr lc dr : Addr} {tt uu tt' uu' : Nat → Tok} {nm : Str} {t9 : Tok} {zs cs : List Value} {zi ci : List Int} {n2 n3 n4 : Nat} {orow : Obj} {i1 i2 : Int} {t4 t5 : Tok} {pt bg zv c1 c2 g1 : Int}

theorem folded_use {dp un : Nat} {gd : Option (List Code)} {cn : Str} {cs : Scope} {a : Addr} {ccd : Value} {cl : List (Str × Addr)} {outer : List Env} {A₀ : Around} {base h₀ : Heap} {news : List (Addr × Obj)} {Q : Value → Shared → Prop} {c : Int} {t8 : Tok} {f : Bool}
    (B : Below A₀ base outer h₀) (F : Fr h₀ L s.heap m) (X : (Mine.hd.heap_39 w.params).In h₀) (N : News h₀ L s.heap news) (T : Top Mine.hd.view_39 loose mean mg mb h₀) (hk : cs.kind = .function)
    (hd : dp + 2 < recursionLimit)
    (hret : ∀ r h' tk' t, r = foldI f c → Fr h₀ L h' m → News h₀ L h' news → Q (.int r t) { s with heap := h', toks := tk' }) :
    wpAny (model PR w) (ktrTop dp un gd cn cs L a ccd cl outer) (call (.ref 154) [.int c t8, .bool f]) Q E s := by
  have E1 : f = false → foldI f c = c := fun h => by subst h; rfl
  have E2 : c < 65 → foldI f c = c := fun h => by unfold foldI; rw [if_neg (by simp; omega)]
  have E3 : 90 < c → foldI f c = c := fun h => by unfold foldI; rw [if_neg (by simp; omega)]
  have E4 : f = true → 65 ≤ c → c ≤ 90 → foldI f c = c + 32 := fun h h1 h2 => by subst h; unfold foldI; rw [if_pos (by simp; omega)]
  refine wpAny_call ?_
  k_dflt cell_enter
  k_steps
  all_goals refine hret _ _ _ _ ?_ (by assumption) (by assumption)
  all_goals first | exact (E4 (by assumption) (by assumption) (by assumption)).symm | exact (E3 (by omega)).symm | exact (E2 (by omega)).symm | exact (E1 (by assumption)).symm
end
end GOrd
section GCmp1
theorem fill_Cmp1 : True := by w_top off; trivial
def Stop (P : Prop) : Prop := P
theorem stopHere {P : Prop} (h : Stop P) : P := h
structure CmpJ (f : Bool) (as bs : List Int) (a1 a2 : Addr) (nws : List (Addr × Obj)) (i : Nat) (m : Str → Option Value) (nx : List (Addr × Obj)) : Prop where
  nx : nx = nws
  m1 : m (Str.ofString "one") = some (.ref a1)
  m2 : m (Str.ofString "other") = some (.ref a2)
  m3 : m (Str.ofString "is_folded") = some (.bool f)
  same : ∀ j, j < i → foldI f (as.getD j 0) = foldI f (bs.getD j 0)
theorem bind1 {m : Str → Option Value} {y : Str} {v : Value} (e : m y = some v) : m = fun z => if z = y then some v else m z := by
  funext z
  by_cases h : z = y
  · rw [if_pos h, h, e]
  · rw [if_neg h]
theorem cmp_iter {prog : Program} {w : World} {A : Around} {E : Value → Shared → Prop} {s : Shared} {env : Env} {h₀ : Heap} {x : Str} {body : List Stmt} {Q : Flow → Shared → Prop} {r : Addr} {a₀ b₀ : Int} {t₀ u₀ v₀ : Tok} {m₀ : Str → Option Value} {nws : List (Addr × Obj)} {f : Bool} {a1 a2 : Addr} {xs zs : List Value} {as bs : List Int}
    (hh : A.handled = none) (hr : IsRange s.heap r a₀ b₀ 1 t₀ u₀ v₀) (F : Fr h₀ env.locals s.heap m₀) (N : News h₀ env.locals s.heap nws)
    (_i1 : IntsAre xs as) (_i2 : IntsAre zs bs) (ea : a₀ = 0) (hb : 0 ≤ b₀) (hb1 : b₀ ≤ as.length) (hb2 : b₀ ≤ bs.length) (hb3 : b₀ ≤ 100)
    (m1 : m₀ (Str.ofString "one") = some (.ref a1)) (m2 : m₀ (Str.ofString "other") = some (.ref a2)) (m3 : m₀ (Str.ofString "is_folded") = some (.bool f))
    (turn : ∀ (i : Nat) t (m₁ : Str → Option Value) h tk own, (i : Int) < b₀ → (∀ j, j < i → foldI f (as.getD j 0) = foldI f (bs.getD j 0)) → TbOff own nws → m₁ (Str.ofString "one") = some (.ref a1) → m₁ (Str.ofString "other") = some (.ref a2) → m₁ (Str.ofString "is_folded") = some (.bool f) → Fr h₀ env.locals h (fun y => if y = x then some (.int (i : Int) t) else if y = Str.ofString "one" then some (.ref a1) else if y = Str.ofString "other" then some (.ref a2) else if y = Str.ofString "is_folded" then some (.bool f) else m₁ y) → News h₀ env.locals h (nws ++ own) →
      wpAny (model prog w) A (execs body env) (TbPost h₀ env.locals (CmpJ f as bs a1 a2 nws (i + 1)) own { s with heap := h, toks := tk } Q) E { s with heap := h, toks := tk })
    (done : ∀ (m₁ : Str → Option Value) h tk, (∀ j, j < b₀.toNat → foldI f (as.getD j 0) = foldI f (bs.getD j 0)) → Fr h₀ env.locals h (fun y => if y = Str.ofString "one" then some (.ref a1) else if y = Str.ofString "other" then some (.ref a2) else m₁ y) → News h₀ env.locals h nws → Q .next { s with heap := h, toks := tk }) :
    wpAny (model prog w) A (pyIter (.ref r)) (fun it s₂ => LoopAtV prog w A h₀ env x body Q E it s₂) E s := by
  subst ea
  obtain ⟨n, rfl⟩ := Int.eq_ofNat_of_zero_le hb
  refine tbr_invG (n := n) (CmpJ f as bs a1 a2 nws) hh hr (small_one (by omega) (by omega) (by omega) (by omega)) (by rw [rangeSize_nat]; omega) F N ⟨rfl, m1, m2, m3, fun j hj => absurd hj (Nat.not_lt_zero _)⟩ ?_ ?_
  · rintro i k t m₁ nx h tk own hk hoff ⟨rfl, e1, e2, e3, hs⟩ F₁ N₁
    have hi : i < n := by
      have := (List.getElem?_eq_some_iff.mp hk).1
      simpa [rangeKs] using this
    have ek : k = (i : Int) := by
      simp [rangeKs, hi] at hk; omega
    subst ek
    refine turn i t m₁ h tk own (by omega) hs hoff e1 e2 e3 ?_ N₁
    rw [bind1 e1, bind1 e2, bind1 e3] at F₁
    exact F₁
  · rintro m₁ nx h tk ⟨rfl, e1, e2, e3, hs⟩ F₁ N₁
    refine done m₁ h tk hs ?_ N₁
    rw [bind1 e1, bind1 e2] at F₁
    exact F₁
local macro_rules | `(tactic| walk_at "pyIter ref") => `(tactic| (k_here; refine stopHere ?_))
local macro_rules | `(tactic| walk_at "call ref") => `(tactic| (k_here; (with_reducible show wpAny _ _ (call (Value.ref 154) [Value.int _ _, Value.bool _]) _ _ _); k_dflt (refine' folded_use ?k1 ?k2 ?k3 ?k4 ?k5 ?k6 ?k7 ?_; (case k1 | k2 | k3 | k4 | k5 => k_asm); (case k6 => first | rfl | assumption); (case k7 => ktr_room); k_whole); intro r' h' tk' t' er' F' N'; subst er'; (try k_sweep)))
section
variable {w : World} {loose : List Str} {mean : ExcName → Option Value} {mg mb : Str → Option Value} {H0 : Heap} {L fa dk di : Addr} {cd : Value} {m : Str → Option Value} {s : Shared} {E : Value → Shared → Prop} {Q : Flow → Shared → Prop}
  {o : Obj} {n1 : Nat} {ys : List Value} {ds : List Int} {k : Int} {t : Tok} {one text other : Str} {t1 t2 t3 : Tok}


variable {bx bd tx td mk md lr lc dr : Addr} {tt uu tt' uu' : Nat → Tok} {nm : Str} {t9 : Tok} {zs cs : List Value} {zi ci : List Int} {n2 n3 n4 : Nat} {orow : Obj} {i1 i2 : Int} {t4 t5 : Tok} {pt bg zv c1 c2 g1 : Int}

theorem cmp_sub1 {h₀ h : Heap} {L : Addr} {x1 x2 d : Addr × Obj} {rest own : List (Addr × Obj)} (N : News h₀ L h (d :: x1 :: x2 :: (rest ++ own))) : News h₀ L h (x1 :: x2 :: rest) := fun p hp => N p (by
  rcases List.mem_cons.mp hp with h | h
  · simp [h]
  · rcases List.mem_cons.mp h with h | h <;> simp [h])
theorem cmp_sub2 {h₀ h : Heap} {L : Addr} {x1 x2 : Addr × Obj} {rest own : List (Addr × Obj)} (N : News h₀ L h (x1 :: x2 :: (rest ++ own))) : News h₀ L h (x1 :: x2 :: rest) := fun p hp => N p (by
  rcases List.mem_cons.mp hp with h | h
  · simp [h]
  · rcases List.mem_cons.mp h with h | h <;> simp [h])
theorem tb_end {h₀ h' : Heap} {L : Addr} {J : (Str → Option Value) → List (Addr × Obj) → Prop} {m' : Str → Option Value} {s₁ : Shared} {tk : Nat} {x1 x2 d : Addr × Obj} {rest own : List (Addr × Obj)}
    (F : Fr h₀ L h' m') (N : News h₀ L h' (d :: x1 :: x2 :: (rest ++ own))) (hoff : TbOff own (x1 :: x2 :: rest)) (hj : J m' (x1 :: x2 :: rest)) : TbEnd h₀ L J own s₁ { s₁ with heap := h', toks := tk } :=
  ⟨h', tk, m', _, x1 :: x2 :: rest, rfl, F, N, (fun p hp => by
    rcases List.mem_cons.mp hp with h | h
    · simp [h]
    · rcases List.mem_cons.mp h with h | h <;> simp [h]), (fun p hp => by simp [hp]), hoff, hj⟩
theorem cmp_core {dp un : Nat} {gd : Option (List Code)} {cn : Str} {cs : Scope} {a : Addr} {ccd : Value} {cl : List (Str × Addr)} {outer : List Env} {A₀ : Around} {base h₀ : Heap} {rest : List (Addr × Obj)} {Q : Value → Shared → Prop} {a1 a2 : Addr} {xs zs : List Value} {n1 n2 : Nat} {as bs : List Int} {f : Bool}
    (B : Below A₀ base outer h₀) (F : Fr h₀ L s.heap m) (X : (Mine.hd.heap_39 w.params).In h₀) (N : News h₀ L s.heap ((a1, listOf xs.toArray n1) :: (a2, listOf zs.toArray n2) :: rest)) (T : Top Mine.hd.view_39 loose mean mg mb h₀) (hk : cs.kind = .function)
    (i1 : IntsAre xs as) (i2 : IntsAre zs bs) (l1 : as.length ≤ 30) (l2 : bs.length ≤ 30)
    (hd : dp + 3 < recursionLimit)
    (hret : ∀ r h' tk' t, r = cmpI f as bs → Fr h₀ L h' m → News h₀ L h' ((a1, listOf xs.toArray n1) :: (a2, listOf zs.toArray n2) :: rest) → Q (.int r t) { s with heap := h', toks := tk' }) :
    wpAny (model PR w) (ktrTop dp un gd cn cs L a ccd cl outer) (call (.ref 161) [.ref a1, .ref a2, .bool f]) Q E s := by
  refine wpAny_call ?_
  k_dflt cell_enter
  k_steps
  all_goals unfold Stop
  refine' cmp_iter ?hh ?hr ?F ?N i1 i2 ?ea ?hb ?hb1 ?hb2 ?hb3 ?m1 ?m2 ?m3 ?_ ?_
  case hr => assumption
  case F => k_asm
  case N => k_asm
  case hh => rfl
  case m1 => rfl
  case m2 => rfl
  case m3 => rfl
  case ea => rfl
  case hb => omega
  case hb1 => omega
  case hb2 => omega
  case hb3 => omega
  · intro i t m₁ h tk own hi hs hoff e1 e2 e3 F₁ N₁
    dsimp only [List.cons_append] at N₁
    have l1' : i < as.length := by omega
    have l2' : i < bs.length := by omega
    k_steps
    all_goals simp only [Int.toNat_natCast] at *
    · rename News h₀ _ _ _ => N9
      exact hret _ _ _ _ (cmpI_lt hs l1' l2' (by assumption)) (by assumption) (cmp_sub1 N9)
    · rename News h₀ _ _ _ => N9
      exact hret _ _ _ _ (cmpI_gt hs l1' l2' (by omega)) (by assumption) (cmp_sub1 N9)
    · rename News _ _ _ _ => N9
      refine tb_end (by assumption) N9 hoff ⟨rfl, rfl, rfl, rfl, fun j hj => ?_⟩
      rcases Nat.lt_or_eq_of_le (Nat.le_of_lt_succ hj) with h | h
      · exact hs j h
      · rw [h]; assumption
  · intro m₁ h tk hs F₁ N₁
    k_steps
    all_goals refine hret _ _ _ _ ?_ (by assumption) (by assumption)
    all_goals rw [cmpI_end hs (by omega)]
    all_goals ((repeat' split) <;> omega)
end
end GCmp1
section GPlainD
theorem lt_drop : ∀ (i : Nat) (us vs : List Nat), us.take i = vs.take i → (us < vs ↔ us.drop i < vs.drop i)
  | 0, us, vs, _ => Iff.rfl
  | i + 1, [], [], _ => Iff.rfl
  | i + 1, [], _ :: _, h => by simp at h
  | i + 1, _ :: _, [], h => by simp at h
  | i + 1, a :: us, b :: vs, h => by
    simp only [List.take_succ_cons, List.cons.injEq] at h
    obtain ⟨rfl, h⟩ := h
    rw [List.drop_succ_cons, List.drop_succ_cons, ← lt_drop i us vs h, List.cons_lt_cons_iff]
    constructor
    · rintro (h | ⟨_, h⟩)
      · exact absurd h (Nat.lt_irrefl _)
      · exact h
    · exact fun h => .inr ⟨rfl, h⟩
theorem eq_drop : ∀ (i : Nat) (us vs : List Nat), us.take i = vs.take i → (us = vs ↔ us.drop i = vs.drop i)
  | 0, us, vs, _ => Iff.rfl
  | i + 1, [], [], _ => by simp
  | i + 1, [], _ :: _, h => by simp at h
  | i + 1, _ :: _, [], h => by simp at h
  | i + 1, a :: us, b :: vs, h => by
    simp only [List.take_succ_cons, List.cons.injEq] at h
    obtain ⟨rfl, h⟩ := h
    rw [List.drop_succ_cons, List.drop_succ_cons, ← eq_drop i us vs h]
    simp
theorem getD_codes (us : List Nat) (j : Nat) : (us.map Int.ofNat).getD j 0 = Int.ofNat (us.getD j 0) := by
  simp only [List.getD_eq_getElem?_getD, List.getElem?_map]
  cases us[j]? with
  | none => rfl
  | some a => rfl
theorem getD_take {us vs : List Nat} {i j : Nat} (h : us.take i = vs.take i) (hj : j < i) : us.getD j 0 = vs.getD j 0 := by
  have e := congrArg (fun l => l[j]?) h
  simp only [List.getElem?_take, hj, if_true] at e
  simp only [List.getD_eq_getElem?_getD, e]
theorem cmpd_plain {us vs : List Nat} {i : Nat} (ht : us.take i = vs.take i) (hu : i ≤ us.length) (hv : i ≤ vs.length) (hd : i = us.length ∨ i = vs.length ∨ us.take (i + 1) ≠ vs.take (i + 1)) :
    cmpL 0 (us.map Int.ofNat) (vs.map Int.ofNat) = if us = vs then 0 else if us < vs then -1 - (i : Int) else 1 + (i : Int) := by
  rw [cmpL_skip i _ _ 0 (fun j hj => by rw [getD_codes, getD_codes, getD_take ht hj]) (by simpa using hu) (by simpa using hv), Nat.zero_add, ← List.map_drop, ← List.map_drop]
  simp only [lt_drop i us vs ht, eq_drop i us vs ht]
  rcases e1 : us.drop i with _ | ⟨a, us'⟩ <;> rcases e2 : vs.drop i with _ | ⟨b, vs'⟩
  · simp [cmpL]
  · rw [if_neg (by simp), if_pos (by simp)]
    show 0 - (i : Int) - 1 = _
    omega
  · rw [if_neg (by simp), if_neg (by simp)]
    show (i : Int) + 1 = _
    omega
  · have hul : i < us.length := by
      rcases Nat.lt_or_ge i us.length with h | h
      · exact h
      · rw [List.drop_eq_nil_of_le h] at e1; cases e1
    have hvl : i < vs.length := by
      rcases Nat.lt_or_ge i vs.length with h | h
      · exact h
      · rw [List.drop_eq_nil_of_le h] at e2; cases e2
    have hne : a ≠ b := by
      rintro rfl
      rcases hd with h | h | h
      · omega
      · omega
      · apply h
        have q1 : us[i]? = some a := by have := congrArg List.head? e1; simpa [List.head?_drop] using this
        have q2 : vs[i]? = some a := by have := congrArg List.head? e2; simpa [List.head?_drop] using this
        rw [List.take_succ, List.take_succ, ht, q1, q2]
    have hne' : a :: us' ≠ b :: vs' := fun h => hne (by injection h)
    rw [if_neg hne']
    simp only [List.map_cons, cmpL]
    rcases Nat.lt_or_ge a b with h | h
    · rw [if_pos (show Int.ofNat a < Int.ofNat b from Int.ofNat_lt.mpr h), if_pos (List.cons_lt_cons_iff.mpr (.inl h))]; omega
    · have h' : b < a := by omega
      rw [if_neg (show ¬ Int.ofNat a < Int.ofNat b from fun q => by have := Int.ofNat_lt.mp q; omega), if_pos (show Int.ofNat b < Int.ofNat a from Int.ofNat_lt.mpr h'), if_neg (fun q => by
        rcases List.cons_lt_cons_iff.mp q with q | ⟨q, _⟩ <;> omega)]; omega
theorem slice_cps (x : Str) {a b : Nat} (hab : a ≤ b) (hb : b ≤ x.length) : (Txt.slice x (some (a : Int)) (some (b : Int))).cps.toList = (x.cps.toList.drop a).take (b - a) := by
  have e : Txt.slice x (some (a : Int)) (some (b : Int)) = StrLaws.sliceText x (some (a : Int)) (some (b : Int)) := rfl
  rw [e, StrLaws.sliceText_nat x hab hb]
theorem slice_upto (x : Str) {b : Nat} (hb : b ≤ x.length) : (Txt.slice x none (some (b : Int))).cps.toList = x.cps.toList.take b := by
  have e : Txt.slice x none (some (b : Int)) = StrLaws.sliceText x none (some (b : Int)) := rfl
  have e2 : StrLaws.sliceText x none (some (b : Int)) = StrLaws.sliceText x (some 0) (some (b : Int)) := by
    unfold StrLaws.sliceText; rw [StrLaws.sliceIdx_none_lo]
  have := StrLaws.sliceText_nat x (Nat.zero_le b) hb
  rw [e, e2]
  rw [show ((0 : Nat) : Int) = 0 from rfl] at this
  rw [this]; rfl
theorem str_eq {x y : Str} (h : x.cps.toList = y.cps.toList) : x = y := Str.ext' (Array.toList_inj.mp h)
abbrev AsciiS (x : Str) : Prop := ∀ c ∈ x.cps.toList, c < 128
theorem lower_len {x : Str} (h : AsciiS x) : (Txt.lower x).length = x.length := by
  rw [lower_ascii h]; simp [Str.length]
theorem lower_codes {x : Str} (h : AsciiS x) : (Txt.lower x).cps.toList.map Int.ofNat = (x.cps.toList.map Int.ofNat).map (foldI true) := by
  rw [lower_ascii h, List.map_map]
  simp only [Array.toList_map, List.map_map]
  apply List.map_congr_left
  intro c _
  simp only [Function.comp, lo1, foldI]
  by_cases q : 65 ≤ c ∧ c ≤ 90
  · rw [if_pos q, if_pos (by simp; omega)]; rfl
  · rw [if_neg q, if_neg (by simp; omega)]
theorem same_codes (l : List Int) : l.map (foldI false) = l := by
  rw [show foldI false = id from by funext c; rfl, List.map_id]
end GPlainD
section GCmpd1
local macro_rules | `(tactic| walk_at "nothing") => `(tactic| skip)
theorem fill_Cmpd1 : True := by w_top off; trivial
theorem bind3 {m : Str → Option Value} {a b c : Str} {u v x : Value} (e1 : m a = some u) (e2 : m b = some v) (e3 : m c = some x) : m = fun y => if y = a then some u else if y = b then some v else if y = c then some x else m y := by
  funext y
  by_cases h1 : y = a
  · simp only [h1, if_true, e1]
  · rw [if_neg h1]
    by_cases h2 : y = b
    · simp only [h2, if_true, e2]
    · rw [if_neg h2]
      by_cases h3 : y = c
      · simp only [h3, if_true, e3]
      · rw [if_neg h3]
structure WStep (h₀ : Heap) (L : Addr) (s : Shared) (news : List (Addr × Obj)) (U V : Str) (tu tv : Tok) (i : Nat) (f : Flow) (s₃ : Shared) : Prop where
  nx : f = .next
  ex : ∃ h' tk t, ∃ m₁ : Str → Option Value, s₃ = { s with heap := h', toks := tk } ∧ Fr h₀ L h' m₁ ∧ News h₀ L h' news ∧ m₁ (Str.ofString "same_ahead") = some (.int ((i : Int) + 1) t) ∧ m₁ (Str.ofString "one") = some (.str U tu) ∧ m₁ (Str.ofString "other") = some (.str V tv) ∧ i + 1 ≤ U.length ∧ i + 1 ≤ V.length ∧ U.cps.toList.take (i + 1) = V.cps.toList.take (i + 1)
theorem cmpd_while {prog : Program} {w : World} {A : Around} {E : Value → Shared → Prop} {s : Shared} {env : Env} {h₀ : Heap} {test : PySem.Expr} {body : List Stmt} {pos : Pos} {Q : Flow → Shared → Prop} {m₀ : Str → Option Value} {news : List (Addr × Obj)} {U V : Str} {t0 tu tv : Tok} {L : Addr}
    (F : Fr h₀ L s.heap m₀) (N : News h₀ L s.heap news) (m1 : m₀ (Str.ofString "one") = some (.str U tu)) (m2 : m₀ (Str.ofString "other") = some (.str V tv)) (m3 : m₀ (Str.ofString "same_ahead") = some (.int 0 t0))
    (turn : ∀ (i : Nat) t (m₁ : Str → Option Value) h tk, i ≤ U.length → i ≤ V.length → U.cps.toList.take i = V.cps.toList.take i → Fr h₀ L h (fun y => if y = Str.ofString "same_ahead" then some (.int (i : Int) t) else if y = Str.ofString "one" then some (.str U tu) else if y = Str.ofString "other" then some (.str V tv) else m₁ y) → News h₀ L h news →
      wpAny (model prog w) A (isTrue test env (eval test env)) (fun b s₂ => WhlIf b (wpAny (model prog w) A (execs body env) (WStep h₀ L s news U V tu tv i) E s₂) (Q .next s₂)) E { s with heap := h, toks := tk })
    (hE : PassesOwn (model prog w) A env E := by passes_own) :
    wpAny (model prog w) A (exec (.While test body [] pos) env) Q E s := by
  refine While_inv (n₀ := U.length) (L := L) (fun n m nx => nx = news ∧ ∃ (i : Nat) (t : Tok) (m₁ : Str → Option Value), i + n = U.length ∧ i ≤ V.length ∧ U.cps.toList.take i = V.cps.toList.take i ∧ m = fun y => if y = Str.ofString "same_ahead" then some (.int (i : Int) t) else if y = Str.ofString "one" then some (.str U tu) else if y = Str.ofString "other" then some (.str V tv) else m₁ y)
    F N ⟨rfl, 0, t0, m₀, Nat.zero_add _, Nat.zero_le _, rfl, ?_⟩ ?_ hE
  · exact bind3 m3 m1 m2
  · rintro n m₁ nx h₁ tk₁ F₁ N₁ ⟨rfl, i, t, m₂, hi, hv, ht, rfl⟩
    refine wpAny_mono (turn i t m₂ h₁ tk₁ (by omega) hv ht F₁ N₁) (fun b s₂ h₂ => ?_) fun _ _ e => e
    cases b with
    | false => exact h₂
    | true =>
      rw [if_pos rfl]
      refine wpAny_mono h₂ (fun f s₃ h₃ => ?_) fun _ _ e => e
      obtain ⟨rfl, h', tk, t', m₁, rfl, F', N', q1, q2, q3, a1, a2, a3⟩ := h₃
      refine .intro F' N' (n' := n - 1) (by omega) ⟨rfl, i + 1, t', m₁, by omega, a2, a3, bind3 q1 q2 q3⟩
theorem bind2 {m : Str → Option Value} {a b : Str} {u v : Value} (e1 : m a = some u) (e2 : m b = some v) : m = fun y => if y = a then some u else if y = b then some v else m y := by
  funext y
  by_cases h1 : y = a
  · simp only [h1, if_true, e1]
  · rw [if_neg h1]
    by_cases h2 : y = b
    · simp only [h2, if_true, e2]
    · rw [if_neg h2]
theorem cutS {M : Model} {A : Around} {E : Value → Shared → Prop} {s : Shared} {env : Env} {st : Stmt} {rest : List Stmt} {Q : Flow → Shared → Prop} (P : Shared → Prop)
    (h1 : ∀ Q' : Flow → Shared → Prop, (∀ s', P s' → Q' .next s') → wpAny M A (exec st env) Q' E s)
    (h2 : ∀ s', P s' → wpAny M A (execs rest env) Q E s') : wpAny M A (execs (st :: rest) env) Q E s :=
  wpAny_execs_cons (h1 _ h2)
local macro_rules | `(tactic| walk_at "exec While") => `(tactic| (k_here; refine stopHere ?_))
local macro_rules | `(tactic| walk_at "exec While BoolOp") => `(tactic| (k_here; refine stopHere ?_))
section
variable {w : World} {loose : List Str} {mean : ExcName → Option Value} {mg mb : Str → Option Value} {H0 : Heap} {L fa dk di : Addr} {cd : Value} {m : Str → Option Value} {s : Shared} {E : Value → Shared → Prop} {Q : Flow → Shared → Prop}
  {o : Obj} {n1 : Nat} {ys : List Value} {ds : List Int} {k : Int} {t : Tok} {one text other : Str} {t1 t2 t3 : Tok}


variable {bx bd tx td mk md lr lc dr : Addr} {tt uu tt' uu' : Nat → Tok} {nm : Str} {t9 : Tok} {zs cs : List Value} {zi ci : List Int} {n2 n3 n4 : Nat} {orow : Obj} {i1 i2 : Int} {t4 t5 : Tok} {pt bg zv c1 c2 g1 : Int}

section
variable {U V : Str} {i : Nat}
theorem stopA (h : (Txt.slice U none (some ((i : Int) + 1)) == Txt.slice V none (some ((i : Int) + 1))) = false) (hu : i < U.length) (hv : i < V.length) : U.cps.toList.take (i + 1) ≠ V.cps.toList.take (i + 1) := by
  intro e
  rw [show (i : Int) + 1 = ((i + 1 : Nat) : Int) from rfl] at h
  rw [show Txt.slice U none (some ((i + 1 : Nat) : Int)) = Txt.slice V none (some ((i + 1 : Nat) : Int)) from str_eq (by rw [slice_upto U hu, slice_upto V hv, e])] at h
  simp at h
theorem stopB (hu : i ≤ U.length) (hv : i ≤ V.length) (h : U.length ≤ i ∨ V.length ≤ i) : i = U.length ∨ i = V.length ∨ U.cps.toList.take (i + 1) ≠ V.cps.toList.take (i + 1) := by omega
theorem goOn (h : (Txt.slice U none (some ((i : Int) + 1)) == Txt.slice V none (some ((i : Int) + 1))) = true) (hu : i < U.length) (hv : i < V.length) : U.cps.toList.take (i + 1) = V.cps.toList.take (i + 1) := by
  have e := beq_iff_eq.mp h
  rw [show (i : Int) + 1 = ((i + 1 : Nat) : Int) from rfl] at e
  rw [← slice_upto U hu, ← slice_upto V hv, e]
theorem end_eq (h : (U == V) = true) : (0 : Int) = cmpL 0 (U.cps.toList.map Int.ofNat) (V.cps.toList.map Int.ofNat) := by
  rw [beq_iff_eq.mp h, cmpL_self]
theorem end_lt (h : (U == V) = false) (ht : U.cps.toList.take i = V.cps.toList.take i) (hu : i ≤ U.length) (hv : i ≤ V.length) (hd : i = U.length ∨ i = V.length ∨ U.cps.toList.take (i + 1) ≠ V.cps.toList.take (i + 1)) (hl : U.cps.toList < V.cps.toList) :
    -1 - (i : Int) = cmpL 0 (U.cps.toList.map Int.ofNat) (V.cps.toList.map Int.ofNat) := by
  rw [cmpd_plain ht hu hv hd, if_neg (fun e => by rw [str_eq e] at h; simp at h), if_pos hl]
theorem end_ge (h : (U == V) = false) (ht : U.cps.toList.take i = V.cps.toList.take i) (hu : i ≤ U.length) (hv : i ≤ V.length) (hd : i = U.length ∨ i = V.length ∨ U.cps.toList.take (i + 1) ≠ V.cps.toList.take (i + 1)) (hl : ¬ U.cps.toList < V.cps.toList) :
    1 + (i : Int) = cmpL 0 (U.cps.toList.map Int.ofNat) (V.cps.toList.map Int.ofNat) := by
  rw [cmpd_plain ht hu hv hd, if_neg (fun e => by rw [str_eq e] at h; simp at h), if_neg hl]
end
theorem cmpd_use {dp un : Nat} {gd : Option (List Code)} {cn : Str} {cs : Scope} {a : Addr} {ccd : Value} {cl : List (Str × Addr)} {outer : List Env} {A₀ : Around} {base h₀ : Heap} {news : List (Addr × Obj)} {Q : Value → Shared → Prop} {X Y : Str} {t8 t9 : Tok} {f : Bool}
    (B : Below A₀ base outer h₀) (F : Fr h₀ L s.heap m) (X' : (Mine.hd.heap_39 w.params).In h₀) (N : News h₀ L s.heap news) (T : Top Mine.hd.view_39 loose mean mg mb h₀) (hk : cs.kind = .function)
    (hd : dp + 2 < recursionLimit) (hX : X.length ≤ 30) (hY : Y.length ≤ 30)
    (aX : AsciiS X) (aY : AsciiS Y) (hret : ∀ r h' tk' t, r = cmpI f (codes X) (codes Y) → Fr h₀ L h' m → News h₀ L h' news → Q (.int r t) { s with heap := h', toks := tk' }) :
    wpAny (model PR w) (ktrTop dp un gd cn cs L a ccd cl outer) (call (.ref 494) [.str X t8, .str Y t9, .bool f]) Q E s := by
  refine wpAny_call ?_
  k_dflt cell_enter
  rename_i g' L' h' FG1 F1 N1 B1 X1 T1
  refine cutS (fun s' => ∃ (h2 : Heap) (tk : Nat) (m2 : Str → Option Value) (U V : Str) (tu tv : Tok), s' = { s with heap := h2, toks := tk } ∧ Fr g' L' h2 m2 ∧ News g' L' h2 news ∧ m2 (Str.ofString "one") = some (.str U tu) ∧ m2 (Str.ofString "other") = some (.str V tv) ∧ U.length ≤ 30 ∧ V.length ≤ 30 ∧ cmpI f (codes X) (codes Y) = cmpL 0 (U.cps.toList.map Int.ofNat) (V.cps.toList.map Int.ofNat)) ?_ ?_
  · intro Q' hQ'
    k_steps
    · refine hQ' _ ⟨_, _, _, _, _, _, _, rfl, by assumption, ?_, rfl, rfl, ?_, ?_, ?_⟩
      · rename News _ _ _ _ => N9
        exact fun p hp => N9 p (.tail _ hp)
      · rw [lower_len aX]; exact hX
      · rw [lower_len aY]; exact hY
      · rw [lower_codes aX, lower_codes aY]
        rename f = true => hf
        rw [hf]; rfl
    · refine hQ' _ ⟨_, _, _, _, _, _, _, rfl, by assumption, by assumption, rfl, rfl, hX, hY, ?_⟩
      rename f = false => hf
      unfold cmpI
      rw [hf, same_codes, same_codes]
  · rintro s' ⟨h2, tk, m2, U, V, tu, tv, rfl, F2, N2, e1, e2, hU, hV, hcod⟩
    clear F1 N1
    rw [bind2 e1 e2] at F2
    k_steps
    unfold Stop
    refine' cmpd_while ?F ?N ?m1 ?m2 ?m3 ?_
    case F => k_asm
    case N => k_asm
    case m1 => rfl
    case m2 => rfl
    case m3 => rfl
    intro i t m₁ h tk hu hv ht F₁ N₁
    k_steps
    · exact ⟨rfl, _, _, _, _, rfl, by assumption, by assumption, rfl, rfl, rfl, by omega, by omega, goOn (by assumption) (by omega) (by omega)⟩
    all_goals rename News h₀ _ _ _ => N9
    all_goals have S : i = U.length ∨ i = V.length ∨ U.cps.toList.take (i + 1) ≠ V.cps.toList.take (i + 1) := by (first | exact .inr (.inr (stopA (by assumption) (by omega) (by omega))) | exact stopB hu hv (by omega))
    all_goals refine hret _ _ _ _ ?_ (by assumption) (by first | exact N9 | exact fun p hp => N9 p (.tail _ hp))
    all_goals rw [hcod]
    all_goals first | exact end_eq (by assumption) | exact end_lt (by assumption) ht hu hv S (by assumption) | exact end_ge (by assumption) ht hu hv S (by assumption)
end
end GCmpd1
section GStA
theorem fill_StA : True := by w_top off; trivial
abbrev ledB (P : Params) (tt uu tt' uu' : Nat → Tok) (nm : Str) (lc tx td bx bd mk lr : Addr) (zs : List Value) (n2 : Nat) (g1 pt bg zv c1 c2 : Int) (rest : List (Addr × Obj)) : List (Addr × Obj) :=
  (lc, listOf zs.toArray n2) :: (tx, instObj 248 td) :: (td, dictOf (gapD P tt uu lc g1 8) 4) :: (bx, instObj 459 bd) :: (bd, dictOf (bufD P tt' uu' nm tx mk lr pt bg zv c1 c2) 20) :: rest
structure StJ (P : Params) (tt uu tt' : Nat → Tok) (nm : Str) (lc tx td bx bd mk lr : Addr) (zs : List Value) (n2 : Nat) (g1 bg zv c1 c2 : Int) (rest : List (Addr × Obj)) (X : Str) (ta tb tc : Tok) (i : Nat) (m : Str → Option Value) (nx : List (Addr × Obj)) : Prop where
  nx : ∃ u p, nx = ledB P tt uu tt' u nm lc tx td bx bd mk lr zs n2 g1 p bg zv c1 c2 rest
  m1 : m (Str.ofString "own_buffer") = some (.ref bx)
  m2 : m (Str.ofString "low") = some (.int bg ta)
  m3 : m (Str.ofString "high") = some (.int zv tb)
  m4 : m (Str.ofString "text") = some (.str X tc)
theorem bind4 {m : Str → Option Value} {a b c d : Str} {u v x y : Value} (e1 : m a = some u) (e2 : m b = some v) (e3 : m c = some x) (e4 : m d = some y) : m = fun z => if z = a then some u else if z = b then some v else if z = c then some x else if z = d then some y else m z := by
  funext z
  by_cases h1 : z = a
  · simp only [h1, if_true, e1]
  · rw [if_neg h1]
    by_cases h2 : z = b
    · simp only [h2, if_true, e2]
    · rw [if_neg h2]
      by_cases h3 : z = c
      · simp only [h3, if_true, e3]
      · rw [if_neg h3]
        by_cases h4 : z = d
        · simp only [h4, if_true, e4]
        · rw [if_neg h4]
theorem st_iter {prog : Program} {w : World} {A : Around} {E : Value → Shared → Prop} {s : Shared} {env : Env} {h₀ : Heap} {x : Str} {body : List Stmt} {Q : Flow → Shared → Prop} {r : Addr} {t₀ u₀ v₀ : Tok} {m₀ : Str → Option Value} {P : Params} {tt uu tt' uu' : Nat → Tok} {nm : Str} {lc tx td bx bd mk lr : Addr} {zs : List Value} {n2 : Nat} {g1 pt bg zv c1 c2 : Int} {rest : List (Addr × Obj)} {X : Str} {ta tb tc : Tok}
    (hh : A.handled = none) (hr : IsRange s.heap r bg (zv + 1) 1 t₀ u₀ v₀) (F : Fr h₀ env.locals s.heap m₀) (N : News h₀ env.locals s.heap (ledB P tt uu tt' uu' nm lc tx td bx bd mk lr zs n2 g1 pt bg zv c1 c2 rest))
    (hb1 : 1 ≤ bg) (hb2 : bg ≤ zv) (hb3 : zv ≤ 100)
    (m1 : m₀ (Str.ofString "own_buffer") = some (.ref bx)) (m2 : m₀ (Str.ofString "low") = some (.int bg ta)) (m3 : m₀ (Str.ofString "high") = some (.int zv tb)) (m4 : m₀ (Str.ofString "text") = some (.str X tc))
    (turn : ∀ (i : Nat) (k : Int) t (m₁ : Str → Option Value) u p h tk own, bg ≤ k → k ≤ zv → TbOff own (ledB P tt uu tt' u nm lc tx td bx bd mk lr zs n2 g1 p bg zv c1 c2 rest) → Fr h₀ env.locals h (fun y => if y = x then some (.int k t) else if y = Str.ofString "own_buffer" then some (.ref bx) else if y = Str.ofString "low" then some (.int bg ta) else if y = Str.ofString "high" then some (.int zv tb) else if y = Str.ofString "text" then some (.str X tc) else m₁ y) →
      News h₀ env.locals h (ledB P tt uu tt' u nm lc tx td bx bd mk lr zs n2 g1 p bg zv c1 c2 (rest ++ own)) →
      wpAny (model prog w) A (execs body env) (TbPost h₀ env.locals (StJ P tt uu tt' nm lc tx td bx bd mk lr zs n2 g1 bg zv c1 c2 rest X ta tb tc (i + 1)) own { s with heap := h, toks := tk } Q) E { s with heap := h, toks := tk })
    (done : ∀ (m₁ : Str → Option Value) u p h tk, Fr h₀ env.locals h m₁ → News h₀ env.locals h (ledB P tt uu tt' u nm lc tx td bx bd mk lr zs n2 g1 p bg zv c1 c2 rest) → Q .next { s with heap := h, toks := tk }) :
    wpAny (model prog w) A (pyIter (.ref r)) (fun it s₂ => LoopAtV prog w A h₀ env x body Q E it s₂) E s := by
  refine tbr_invG (n := (zv + 1 - bg).toNat) (StJ P tt uu tt' nm lc tx td bx bd mk lr zs n2 g1 bg zv c1 c2 rest X ta tb tc) hh hr (small_one (by omega) (by omega) (by omega) (by omega)) (by rw [rangeSize_nat]) F N ⟨⟨_, _, rfl⟩, m1, m2, m3, m4⟩ ?_ ?_
  · rintro i k t m₁ nx h tk own hk hoff ⟨⟨u, p, rfl⟩, e1, e2, e3, e4⟩ F₁ N₁
    have hi : i < (zv + 1 - bg).toNat := by
      have := (List.getElem?_eq_some_iff.mp hk).1
      simpa [rangeKs] using this
    have ek : k = bg + (i : Int) := by
      simp [rangeKs, hi] at hk; omega
    refine turn i k t m₁ u p h tk own (by omega) (by omega) hoff ?_ N₁
    rw [bind4 e1 e2 e3 e4] at F₁
    exact F₁
  · rintro m₁ nx h tk ⟨⟨u, p, rfl⟩, e1, e2, e3, e4⟩ F₁ N₁
    exact done m₁ u p h tk F₁ N₁
local macro_rules | `(tactic| walk_at "pyIter ref") => `(tactic| (k_here; refine stopHere ?_))
local macro_rules | `(tactic| k_all) => `(tactic| assumption)
section
variable {w : World} {loose : List Str} {mean : ExcName → Option Value} {mg mb : Str → Option Value} {H0 : Heap} {L fa dk di : Addr} {cd : Value} {m : Str → Option Value} {s : Shared} {E : Value → Shared → Prop} {Q : Flow → Shared → Prop}
  {o : Obj} {n1 : Nat} {ys : List Value} {ds : List Int} {k : Int} {t : Tok} {one text other : Str} {t1 t2 t3 : Tok}


variable {bx bd tx td mk md lr lc dr : Addr} {tt uu tt' uu' : Nat → Tok} {nm : Str} {t9 : Tok} {zs cs : List Value} {zi ci : List Int} {n2 n3 n4 : Nat} {orow : Obj} {i1 i2 : Int} {t4 t5 : Tok} {pt bg zv c1 c2 g1 : Int}

theorem goto_core {dp un : Nat} {gd : Option (List Code)} {cn : Str} {cs : Scope} {a : Addr} {ccd : Value} {cl : List (Str × Addr)} {outer : List Env} {A₀ : Around} {base h₀ : Heap} {rest : List (Addr × Obj)} {Q : Value → Shared → Prop} {k : Int} {tk9 : Tok}
    (B : Below A₀ base outer h₀) (F : Fr h₀ L s.heap m) (X' : (Mine.hd.heap_39 w.params).In h₀) (N : News h₀ L s.heap ((bx, instObj 459 bd) :: (bd, dictOf (bufD w.params tt' uu' nm tx mk lr pt bg zv c1 c2) 20) :: rest)) (T : Top Mine.hd.view_39 loose mean mg mb h₀) (hk : cs.kind = .function)
    (hd : dp + 3 < recursionLimit) (hb1 : bg ≤ k) (hb2 : k ≤ zv) (q1 : @Ne Nat bx bd) (hrest : ∀ p ∈ rest, p.1 ≠ bd)
    (hret : ∀ h' tk' t v, Fr h₀ L h' m → News h₀ L h' ((bx, instObj 459 bd) :: (bd, dictOf (bufD w.params tt' (fun i => if i = 4 then t else uu' i) nm tx mk lr k bg zv c1 c2) 20) :: rest) → Q v { s with heap := h', toks := tk' }) :
    wpAny (model PR w) (ktrTop dp un gd cn cs L a ccd cl outer) (call (.ref 428) [.ref bx, .int k tk9]) Q E s := by
  have q1' : @Ne Nat bd bx := fun e => q1 e.symm
  refine wpAny_call ?_
  k_dflt cell_enter
  k_steps
  have e : (if zv < if bg > k then bg else k then zv else if bg > k then bg else k) = k := by (repeat' split) <;> omega
  simp only [e] at *
  exact hret _ _ _ _ (by assumption) (by assumption)
theorem goto_use {dp un : Nat} {gd : Option (List Code)} {cn : Str} {cs : Scope} {a : Addr} {ccd : Value} {cl : List (Str × Addr)} {outer : List Env} {A₀ : Around} {base h₀ : Heap} {news : List (Addr × Obj)} {Q : Value → Shared → Prop} {k : Int} {tk9 : Tok}
    (B : Below A₀ base outer h₀) (F : Fr h₀ L s.heap m) (X' : (Mine.hd.heap_39 w.params).In h₀) (N : News h₀ L s.heap news) (T : Top Mine.hd.view_39 loose mean mg mb h₀) (hk : cs.kind = .function)
    (hm1 : (bx, instObj 459 bd) ∈ news) (hm2 : (bd, dictOf (bufD w.params tt' uu' nm tx mk lr pt bg zv c1 c2) 20) ∈ news)
    (hd : dp + 3 < recursionLimit) (hb1 : bg ≤ k) (hb2 : k ≤ zv) (q1 : @Ne Nat bx bd)
    (hret : ∀ h' tk' t v, Fr h₀ L h' m → (∀ news', Upd bd (dictOf (bufD w.params tt' uu' nm tx mk lr pt bg zv c1 c2) 20) (dictOf (bufD w.params tt' (fun i => if i = 4 then t else uu' i) nm tx mk lr k bg zv c1 c2) 20) news news' → News h₀ L h' news') → Q v { s with heap := h', toks := tk' }) :
    wpAny (model PR w) (ktrTop dp un gd cn cs L a ccd cl outer) (call (.ref 428) [.ref bx, .int k tk9]) Q E s := by
  refine' goto_core (rest := news.filter fun p => p.1 ≠ bd) B F X' (?_ : News h₀ L s.heap ((bx, instObj 459 bd) :: (bd, dictOf (bufD w.params tt' uu' nm tx mk lr pt bg zv c1 c2) 20) :: _)) T hk hd hb1 hb2 q1 ?_ ?_
  · intro p hp
    rcases List.mem_cons.mp hp with rfl | hp
    · exact N _ hm1
    · rcases List.mem_cons.mp hp with rfl | hp
      · exact N _ hm2
      · exact N _ (List.mem_filter.mp hp).1
  · intro p hp
    simpa using (List.mem_filter.mp hp).2
  · intro h' tk' t v F' N'
    refine hret h' tk' t v F' fun news' U => ?_
    obtain ⟨pre, post, e1, e2, a, b⟩ := U.split
    subst e1 e2
    intro p hp
    rcases List.mem_append.mp hp with hp | hp
    · exact N' _ (.tail _ (.tail _ (List.mem_filter.mpr ⟨List.mem_append.mpr (.inl hp), by simpa using a p hp⟩)))
    · rcases List.mem_cons.mp hp with rfl | hp
      · exact N' _ (.tail _ (.head _))
      · exact N' _ (.tail _ (.tail _ (List.mem_filter.mpr ⟨List.mem_append.mpr (.inr (.tail _ hp)), by simpa using b p hp⟩)))
end
end GStA
section GStB
theorem fill_StB : True := by w_top off; trivial
def cAt (zi : List Int) (bg zv k : Int) : Int := if k < bg ∨ zv ≤ k then -1 else zi.getD (k - 1).toNat 0
theorem led_in {P : Params} {tt uu tt' uu' : Nat → Tok} {nm : Str} {lc tx td bx bd mk lr : Addr} {zs : List Value} {n2 : Nat} {g1 pt bg zv c1 c2 : Int} {news : List (Addr × Obj)} {h₀ h : Heap} {L : Addr} (N : News h₀ L h news)
    (hm1 : (lc, listOf zs.toArray n2) ∈ news) (hm2 : (tx, instObj 248 td) ∈ news) (hm3 : (td, dictOf (gapD P tt uu lc g1 8) 4) ∈ news) (hm4 : (bx, instObj 459 bd) ∈ news) (hm5 : (bd, dictOf (bufD P tt' uu' nm tx mk lr pt bg zv c1 c2) 20) ∈ news) :
    News h₀ L h (ledB P tt uu tt' uu' nm lc tx td bx bd mk lr zs n2 g1 pt bg zv c1 c2 news) := by
  intro p hp
  rcases List.mem_cons.mp hp with rfl | hp
  · exact N _ hm1
  rcases List.mem_cons.mp hp with rfl | hp
  · exact N _ hm2
  rcases List.mem_cons.mp hp with rfl | hp
  · exact N _ hm3
  rcases List.mem_cons.mp hp with rfl | hp
  · exact N _ hm4
  rcases List.mem_cons.mp hp with rfl | hp
  · exact N _ hm5
  exact N _ hp
theorem cAt_lo {zi : List Int} {bg zv k : Int} (h : k < bg) : -1 = cAt zi bg zv k := by unfold cAt; rw [if_pos (.inl h)]
theorem cAt_hi {zi : List Int} {bg zv k : Int} (h : zv ≤ k) : -1 = cAt zi bg zv k := by unfold cAt; rw [if_pos (.inr h)]
theorem cAt_in {zi : List Int} {bg zv k : Int} (h : ¬ k < bg) (h' : ¬ zv ≤ k) : zi.getD (k - 1).toNat 0 = cAt zi bg zv k := by unfold cAt; rw [if_neg (by omega)]
theorem or_l {a b : Bool} (h : a = true) : a = (a || b)   := by rw [h]; rfl
theorem or_r {a b : Bool} (h : a = false) : b = (a || b) := by rw [h]; rfl
local macro_rules | `(tactic| walk_at "pyIter ref") => `(tactic| (k_here; refine stopHere ?_))
local macro_rules | `(tactic| walk_at "call ref") => `(tactic| (k_here; (with_reducible show wpAny _ _ (call (Value.ref 428) [Value.ref _, Value.int _ _]) _ _ _); k_dflt (refine' goto_use ?k1 ?k2 ?k3 ?k4 ?k5 ?k6 ?k7 ?k8 ?k9 ?k10 ?k11 ?k12 ?_; (case k1 | k2 | k3 | k4 | k5 => k_asm); (case k6 => first | rfl | assumption); (case k7 | k8 => k_mem); (case k9 => ktr_room); (case k10 | k11 => omega); (case k12 => k_ne); k_whole); intro h' tk' t' v' F' N0'; (have N' := N0' _ (by k_dflt k_upd)); clear N0'; (try k_sweep)))
local macro_rules | `(tactic| k_all) => `(tactic| assumption)
variable {w : World} {loose : List Str} {mean : ExcName → Option Value} {mg mb : Str → Option Value} {H0 : Heap} {L fa dk di : Addr} {cd : Value} {m : Str → Option Value} {s : Shared} {E : Value → Shared → Prop} {Q : Flow → Shared → Prop}
  {o : Obj} {n1 : Nat} {ys : List Value} {ds : List Int} {k : Int} {t : Tok} {one text other : Str} {t1 t2 t3 : Tok}


variable {bx bd tx td mk md lr lc dr : Addr} {tt uu tt' uu' : Nat → Tok} {nm : Str} {t9 : Tok} {zs cs : List Value} {zi ci : List Int} {n2 n3 n4 : Nat} {orow : Obj} {i1 i2 : Int} {t4 t5 : Tok} {pt bg zv c1 c2 g1 : Int}
theorem after_core {dp un : Nat} {gd : Option (List Code)} {cn : Str} {cs : Scope} {a : Addr} {ccd : Value} {cl : List (Str × Addr)} {outer : List Env} {A₀ : Around} {base h₀ : Heap} {rest : List (Addr × Obj)} {Q : Value → Shared → Prop} {k : Int} {tk9 : Tok}
    (B : Below A₀ base outer h₀) (F : Fr h₀ L s.heap m) (X' : (Mine.hd.heap_39 w.params).In h₀) (N : News h₀ L s.heap (ledB w.params tt uu tt' uu' nm lc tx td bx bd mk lr zs n2 g1 pt bg zv c1 c2 rest)) (T : Top Mine.hd.view_39 loose mean mg mb h₀) (hk : cs.kind = .function)
    (hI : IntsAre zs zi) (hz : zi.length = 8) (hb1 : 1 ≤ bg) (hb2 : bg ≤ zv) (hb3 : zv ≤ g1 + 1) (hg : g1 ≤ 8) (hd : dp + 5 < recursionLimit) 
    (hret : ∀ (r : Int) h' tk' (t : Tok), r = cAt zi bg zv k → Fr h₀ L h' m → News h₀ L h' (ledB w.params tt uu tt' uu' nm lc tx td bx bd mk lr zs n2 g1 pt bg zv c1 c2 rest) → Q (.int r t) { s with heap := h', toks := tk' }) :
    wpAny (model PR w) (ktrTop dp un gd cn cs L a ccd cl outer) (call (.ref 105) [.ref bx, .int k tk9]) Q E s := by
  refine wpAny_call ?_
  dsimp only [ledB] at N hret
  k_dflt cell_enter
  k_steps
  all_goals refine hret _ _ _ _ ?_ (by assumption) (by assumption)
  all_goals first | exact cAt_lo (by omega) | exact cAt_hi (by omega) | exact cAt_in (by omega) (by omega)

theorem after_use {dp un : Nat} {gd : Option (List Code)} {cn : Str} {cs : Scope} {a : Addr} {ccd : Value} {cl : List (Str × Addr)} {outer : List Env} {A₀ : Around} {base h₀ : Heap} {news : List (Addr × Obj)} {Q : Value → Shared → Prop} {k : Int} {tk9 : Tok}
    (B : Below A₀ base outer h₀) (F : Fr h₀ L s.heap m) (X' : (Mine.hd.heap_39 w.params).In h₀) (N : News h₀ L s.heap news) (T : Top Mine.hd.view_39 loose mean mg mb h₀) (hk : cs.kind = .function)
    (hm1 : (lc, listOf zs.toArray n2) ∈ news) (hm2 : (tx, instObj 248 td) ∈ news) (hm3 : (td, dictOf (gapD w.params tt uu lc g1 8) 4) ∈ news) (hm4 : (bx, instObj 459 bd) ∈ news) (hm5 : (bd, dictOf (bufD w.params tt' uu' nm tx mk lr pt bg zv c1 c2) 20) ∈ news) (hI : IntsAre zs zi) (hz : zi.length = 8) (hb1 : 1 ≤ bg) (hb2 : bg ≤ zv) (hb3 : zv ≤ g1 + 1) (hg : g1 ≤ 8) (hd : dp + 5 < recursionLimit) 
    (hret : ∀ (r : Int) h' tk' (t : Tok), r = cAt zi bg zv k → Fr h₀ L h' m → News h₀ L h' news → Q (.int r t) { s with heap := h', toks := tk' }) :
    wpAny (model PR w) (ktrTop dp un gd cn cs L a ccd cl outer) (call (.ref 105) [.ref bx, .int k tk9]) Q E s := by
  refine after_core B F X' (led_in N hm1 hm2 hm3 hm4 hm5) T hk hI hz hb1 hb2 hb3 hg hd ?_
  intro r h' tk' t er F' N'
  exact hret r h' tk' t er F' (fun p hp => N' p (.tail _ (.tail _ (.tail _ (.tail _ (.tail _ hp))))))
local macro_rules | `(tactic| walk_at "call ref") => `(tactic| (k_here; (with_reducible show wpAny _ _ (call (Value.ref 105) [Value.ref _, Value.int _ _]) _ _ _); k_dflt (refine' after_use ?k1 ?k2 ?k3 ?k4 ?k5 ?k6 ?k7 ?k8 ?k9 ?k10 ?k11 ?k12 ?k13 ?k14 ?k15 ?k16 ?k17 ?k18 ?_; (case k1 | k2 | k3 | k4 | k5 => k_asm); (case k6 => first | rfl | assumption); (case k10 | k11 | k8 | k9 | k7 => k_mem); (case k12 => assumption); (case k13 | k14 | k15 | k16 | k17 => omega); (case k18 => ktr_room); k_whole); intro r' h' tk' t' er' F' N'; subst er'; (try k_sweep)))
theorem before_core {dp un : Nat} {gd : Option (List Code)} {cn : Str} {cs : Scope} {a : Addr} {ccd : Value} {cl : List (Str × Addr)} {outer : List Env} {A₀ : Around} {base h₀ : Heap} {rest : List (Addr × Obj)} {Q : Value → Shared → Prop} {k : Int} {tk9 : Tok}
    (B : Below A₀ base outer h₀) (F : Fr h₀ L s.heap m) (X' : (Mine.hd.heap_39 w.params).In h₀) (N : News h₀ L s.heap (ledB w.params tt uu tt' uu' nm lc tx td bx bd mk lr zs n2 g1 pt bg zv c1 c2 rest)) (T : Top Mine.hd.view_39 loose mean mg mb h₀) (hk : cs.kind = .function)
    (hI : IntsAre zs zi) (hz : zi.length = 8) (hb1 : 1 ≤ bg) (hb2 : bg ≤ zv) (hb3 : zv ≤ g1 + 1) (hg : g1 ≤ 8) (hd : dp + 5 < recursionLimit) (hx : k ≤ zv)
    (hret : ∀ (r : Int) h' tk' (t : Tok), r = cAt zi bg zv (k - 1) → Fr h₀ L h' m → News h₀ L h' (ledB w.params tt uu tt' uu' nm lc tx td bx bd mk lr zs n2 g1 pt bg zv c1 c2 rest) → Q (.int r t) { s with heap := h', toks := tk' }) :
    wpAny (model PR w) (ktrTop dp un gd cn cs L a ccd cl outer) (call (.ref 112) [.ref bx, .int k tk9]) Q E s := by
  refine wpAny_call ?_
  dsimp only [ledB] at N hret
  k_dflt cell_enter
  k_steps
  all_goals refine hret _ _ _ _ ?_ (by assumption) (by assumption)
  all_goals first | exact cAt_lo (by omega) | exact cAt_hi (by omega) | exact cAt_in (by omega) (by omega)

theorem before_use {dp un : Nat} {gd : Option (List Code)} {cn : Str} {cs : Scope} {a : Addr} {ccd : Value} {cl : List (Str × Addr)} {outer : List Env} {A₀ : Around} {base h₀ : Heap} {news : List (Addr × Obj)} {Q : Value → Shared → Prop} {k : Int} {tk9 : Tok}
    (B : Below A₀ base outer h₀) (F : Fr h₀ L s.heap m) (X' : (Mine.hd.heap_39 w.params).In h₀) (N : News h₀ L s.heap news) (T : Top Mine.hd.view_39 loose mean mg mb h₀) (hk : cs.kind = .function)
    (hm1 : (lc, listOf zs.toArray n2) ∈ news) (hm2 : (tx, instObj 248 td) ∈ news) (hm3 : (td, dictOf (gapD w.params tt uu lc g1 8) 4) ∈ news) (hm4 : (bx, instObj 459 bd) ∈ news) (hm5 : (bd, dictOf (bufD w.params tt' uu' nm tx mk lr pt bg zv c1 c2) 20) ∈ news) (hI : IntsAre zs zi) (hz : zi.length = 8) (hb1 : 1 ≤ bg) (hb2 : bg ≤ zv) (hb3 : zv ≤ g1 + 1) (hg : g1 ≤ 8) (hd : dp + 5 < recursionLimit) (hx : k ≤ zv)
    (hret : ∀ (r : Int) h' tk' (t : Tok), r = cAt zi bg zv (k - 1) → Fr h₀ L h' m → News h₀ L h' news → Q (.int r t) { s with heap := h', toks := tk' }) :
    wpAny (model PR w) (ktrTop dp un gd cn cs L a ccd cl outer) (call (.ref 112) [.ref bx, .int k tk9]) Q E s := by
  refine before_core B F X' (led_in N hm1 hm2 hm3 hm4 hm5) T hk hI hz hb1 hb2 hb3 hg hd hx ?_
  intro r h' tk' t er F' N'
  exact hret r h' tk' t er F' (fun p hp => N' p (.tail _ (.tail _ (.tail _ (.tail _ (.tail _ hp))))))
local macro_rules | `(tactic| walk_at "call ref") => `(tactic| (k_here; (with_reducible show wpAny _ _ (call (Value.ref 112) [Value.ref _, Value.int _ _]) _ _ _); k_dflt (refine' before_use ?k1 ?k2 ?k3 ?k4 ?k5 ?k6 ?k7 ?k8 ?k9 ?k10 ?k11 ?k12 ?k13 ?k14 ?k15 ?k16 ?k17 ?k18 ?k19 ?_; (case k1 | k2 | k3 | k4 | k5 => k_asm); (case k6 => first | rfl | assumption); (case k10 | k11 | k8 | k9 | k7 => k_mem); (case k12 => assumption); (case k13 | k14 | k15 | k16 | k17 => omega); (case k18 => ktr_room); (case k19 => omega); k_whole); intro r' h' tk' t' er' F' N'; subst er'; (try k_sweep)))
theorem bob_core {dp un : Nat} {gd : Option (List Code)} {cn : Str} {cs : Scope} {a : Addr} {ccd : Value} {cl : List (Str × Addr)} {outer : List Env} {A₀ : Around} {base h₀ : Heap} {rest : List (Addr × Obj)} {Q : Value → Shared → Prop}
    (B : Below A₀ base outer h₀) (F : Fr h₀ L s.heap m) (X' : (Mine.hd.heap_39 w.params).In h₀) (N : News h₀ L s.heap (ledB w.params tt uu tt' uu' nm lc tx td bx bd mk lr zs n2 g1 pt bg zv c1 c2 rest)) (T : Top Mine.hd.view_39 loose mean mg mb h₀) (hk : cs.kind = .function)
    (hI : IntsAre zs zi) (hz : zi.length = 8) (hb1 : 1 ≤ bg) (hb2 : bg ≤ zv) (hb3 : zv ≤ g1 + 1) (hg : g1 ≤ 8) (hd : dp + 4 < recursionLimit) 
    (hret : ∀ (r : Bool) h' tk', r = (pt == bg) → Fr h₀ L h' m → News h₀ L h' (ledB w.params tt uu tt' uu' nm lc tx td bx bd mk lr zs n2 g1 pt bg zv c1 c2 rest) → Q (.bool r) { s with heap := h', toks := tk' }) :
    wpAny (model PR w) (ktrTop dp un gd cn cs L a ccd cl outer) (call (.ref 119) [.ref bx]) Q E s := by
  refine wpAny_call ?_
  dsimp only [ledB] at N hret
  k_dflt cell_enter
  k_steps
  all_goals refine hret _ _ _ ?_ (by assumption) (by assumption)
  all_goals first | rfl | exact or_l (beq_iff_eq.mpr (by assumption)) | exact or_r (beq_eq_false_iff_ne.mpr (by assumption))

theorem bob_use {dp un : Nat} {gd : Option (List Code)} {cn : Str} {cs : Scope} {a : Addr} {ccd : Value} {cl : List (Str × Addr)} {outer : List Env} {A₀ : Around} {base h₀ : Heap} {news : List (Addr × Obj)} {Q : Value → Shared → Prop}
    (B : Below A₀ base outer h₀) (F : Fr h₀ L s.heap m) (X' : (Mine.hd.heap_39 w.params).In h₀) (N : News h₀ L s.heap news) (T : Top Mine.hd.view_39 loose mean mg mb h₀) (hk : cs.kind = .function)
    (hm1 : (lc, listOf zs.toArray n2) ∈ news) (hm2 : (tx, instObj 248 td) ∈ news) (hm3 : (td, dictOf (gapD w.params tt uu lc g1 8) 4) ∈ news) (hm4 : (bx, instObj 459 bd) ∈ news) (hm5 : (bd, dictOf (bufD w.params tt' uu' nm tx mk lr pt bg zv c1 c2) 20) ∈ news) (hI : IntsAre zs zi) (hz : zi.length = 8) (hb1 : 1 ≤ bg) (hb2 : bg ≤ zv) (hb3 : zv ≤ g1 + 1) (hg : g1 ≤ 8) (hd : dp + 4 < recursionLimit) 
    (hret : ∀ (r : Bool) h' tk', r = (pt == bg) → Fr h₀ L h' m → News h₀ L h' news → Q (.bool r) { s with heap := h', toks := tk' }) :
    wpAny (model PR w) (ktrTop dp un gd cn cs L a ccd cl outer) (call (.ref 119) [.ref bx]) Q E s := by
  refine bob_core B F X' (led_in N hm1 hm2 hm3 hm4 hm5) T hk hI hz hb1 hb2 hb3 hg hd ?_
  intro r h' tk' er F' N'
  exact hret r h' tk' er F' (fun p hp => N' p (.tail _ (.tail _ (.tail _ (.tail _ (.tail _ hp))))))
local macro_rules | `(tactic| walk_at "call ref") => `(tactic| (k_here; (with_reducible show wpAny _ _ (call (Value.ref 119) [Value.ref _]) _ _ _); k_dflt (refine' bob_use ?k1 ?k2 ?k3 ?k4 ?k5 ?k6 ?k7 ?k8 ?k9 ?k10 ?k11 ?k12 ?k13 ?k14 ?k15 ?k16 ?k17 ?k18 ?_; (case k1 | k2 | k3 | k4 | k5 => k_asm); (case k6 => first | rfl | assumption); (case k10 | k11 | k8 | k9 | k7 => k_mem); (case k12 => assumption); (case k13 | k14 | k15 | k16 | k17 => omega); (case k18 => ktr_room); k_whole); intro r' h' tk' er' F' N'; subst er'; (try k_sweep)))
theorem eob_core {dp un : Nat} {gd : Option (List Code)} {cn : Str} {cs : Scope} {a : Addr} {ccd : Value} {cl : List (Str × Addr)} {outer : List Env} {A₀ : Around} {base h₀ : Heap} {rest : List (Addr × Obj)} {Q : Value → Shared → Prop}
    (B : Below A₀ base outer h₀) (F : Fr h₀ L s.heap m) (X' : (Mine.hd.heap_39 w.params).In h₀) (N : News h₀ L s.heap (ledB w.params tt uu tt' uu' nm lc tx td bx bd mk lr zs n2 g1 pt bg zv c1 c2 rest)) (T : Top Mine.hd.view_39 loose mean mg mb h₀) (hk : cs.kind = .function)
    (hI : IntsAre zs zi) (hz : zi.length = 8) (hb1 : 1 ≤ bg) (hb2 : bg ≤ zv) (hb3 : zv ≤ g1 + 1) (hg : g1 ≤ 8) (hd : dp + 4 < recursionLimit) 
    (hret : ∀ (r : Bool) h' tk', r = (pt == zv) → Fr h₀ L h' m → News h₀ L h' (ledB w.params tt uu tt' uu' nm lc tx td bx bd mk lr zs n2 g1 pt bg zv c1 c2 rest) → Q (.bool r) { s with heap := h', toks := tk' }) :
    wpAny (model PR w) (ktrTop dp un gd cn cs L a ccd cl outer) (call (.ref 126) [.ref bx]) Q E s := by
  refine wpAny_call ?_
  dsimp only [ledB] at N hret
  k_dflt cell_enter
  k_steps
  all_goals refine hret _ _ _ ?_ (by assumption) (by assumption)
  all_goals first | rfl | exact or_l (beq_iff_eq.mpr (by assumption)) | exact or_r (beq_eq_false_iff_ne.mpr (by assumption))

theorem eob_use {dp un : Nat} {gd : Option (List Code)} {cn : Str} {cs : Scope} {a : Addr} {ccd : Value} {cl : List (Str × Addr)} {outer : List Env} {A₀ : Around} {base h₀ : Heap} {news : List (Addr × Obj)} {Q : Value → Shared → Prop}
    (B : Below A₀ base outer h₀) (F : Fr h₀ L s.heap m) (X' : (Mine.hd.heap_39 w.params).In h₀) (N : News h₀ L s.heap news) (T : Top Mine.hd.view_39 loose mean mg mb h₀) (hk : cs.kind = .function)
    (hm1 : (lc, listOf zs.toArray n2) ∈ news) (hm2 : (tx, instObj 248 td) ∈ news) (hm3 : (td, dictOf (gapD w.params tt uu lc g1 8) 4) ∈ news) (hm4 : (bx, instObj 459 bd) ∈ news) (hm5 : (bd, dictOf (bufD w.params tt' uu' nm tx mk lr pt bg zv c1 c2) 20) ∈ news) (hI : IntsAre zs zi) (hz : zi.length = 8) (hb1 : 1 ≤ bg) (hb2 : bg ≤ zv) (hb3 : zv ≤ g1 + 1) (hg : g1 ≤ 8) (hd : dp + 4 < recursionLimit) 
    (hret : ∀ (r : Bool) h' tk', r = (pt == zv) → Fr h₀ L h' m → News h₀ L h' news → Q (.bool r) { s with heap := h', toks := tk' }) :
    wpAny (model PR w) (ktrTop dp un gd cn cs L a ccd cl outer) (call (.ref 126) [.ref bx]) Q E s := by
  refine eob_core B F X' (led_in N hm1 hm2 hm3 hm4 hm5) T hk hI hz hb1 hb2 hb3 hg hd ?_
  intro r h' tk' er F' N'
  exact hret r h' tk' er F' (fun p hp => N' p (.tail _ (.tail _ (.tail _ (.tail _ (.tail _ hp))))))
local macro_rules | `(tactic| walk_at "call ref") => `(tactic| (k_here; (with_reducible show wpAny _ _ (call (Value.ref 126) [Value.ref _]) _ _ _); k_dflt (refine' eob_use ?k1 ?k2 ?k3 ?k4 ?k5 ?k6 ?k7 ?k8 ?k9 ?k10 ?k11 ?k12 ?k13 ?k14 ?k15 ?k16 ?k17 ?k18 ?_; (case k1 | k2 | k3 | k4 | k5 => k_asm); (case k6 => first | rfl | assumption); (case k10 | k11 | k8 | k9 | k7 => k_mem); (case k12 => assumption); (case k13 | k14 | k15 | k16 | k17 => omega); (case k18 => ktr_room); k_whole); intro r' h' tk' er' F' N'; subst er'; (try k_sweep)))
theorem bol_core {dp un : Nat} {gd : Option (List Code)} {cn : Str} {cs : Scope} {a : Addr} {ccd : Value} {cl : List (Str × Addr)} {outer : List Env} {A₀ : Around} {base h₀ : Heap} {rest : List (Addr × Obj)} {Q : Value → Shared → Prop}
    (B : Below A₀ base outer h₀) (F : Fr h₀ L s.heap m) (X' : (Mine.hd.heap_39 w.params).In h₀) (N : News h₀ L s.heap (ledB w.params tt uu tt' uu' nm lc tx td bx bd mk lr zs n2 g1 pt bg zv c1 c2 rest)) (T : Top Mine.hd.view_39 loose mean mg mb h₀) (hk : cs.kind = .function)
    (hI : IntsAre zs zi) (hz : zi.length = 8) (hb1 : 1 ≤ bg) (hb2 : bg ≤ zv) (hb3 : zv ≤ g1 + 1) (hg : g1 ≤ 8) (hd : dp + 7 < recursionLimit) (hx : pt ≤ zv)
    (hret : ∀ (r : Bool) h' tk', r = ((pt == bg) || (cAt zi bg zv (pt - 1) == 10)) → Fr h₀ L h' m → News h₀ L h' (ledB w.params tt uu tt' uu' nm lc tx td bx bd mk lr zs n2 g1 pt bg zv c1 c2 rest) → Q (.bool r) { s with heap := h', toks := tk' }) :
    wpAny (model PR w) (ktrTop dp un gd cn cs L a ccd cl outer) (call (.ref 133) [.ref bx]) Q E s := by
  refine wpAny_call ?_
  dsimp only [ledB] at N hret
  k_dflt cell_enter
  k_steps
  all_goals refine hret _ _ _ ?_ (by assumption) (by assumption)
  all_goals first | rfl | exact or_l (beq_iff_eq.mpr (by assumption)) | exact or_r (beq_eq_false_iff_ne.mpr (by assumption))

theorem bol_use {dp un : Nat} {gd : Option (List Code)} {cn : Str} {cs : Scope} {a : Addr} {ccd : Value} {cl : List (Str × Addr)} {outer : List Env} {A₀ : Around} {base h₀ : Heap} {news : List (Addr × Obj)} {Q : Value → Shared → Prop}
    (B : Below A₀ base outer h₀) (F : Fr h₀ L s.heap m) (X' : (Mine.hd.heap_39 w.params).In h₀) (N : News h₀ L s.heap news) (T : Top Mine.hd.view_39 loose mean mg mb h₀) (hk : cs.kind = .function)
    (hm1 : (lc, listOf zs.toArray n2) ∈ news) (hm2 : (tx, instObj 248 td) ∈ news) (hm3 : (td, dictOf (gapD w.params tt uu lc g1 8) 4) ∈ news) (hm4 : (bx, instObj 459 bd) ∈ news) (hm5 : (bd, dictOf (bufD w.params tt' uu' nm tx mk lr pt bg zv c1 c2) 20) ∈ news) (hI : IntsAre zs zi) (hz : zi.length = 8) (hb1 : 1 ≤ bg) (hb2 : bg ≤ zv) (hb3 : zv ≤ g1 + 1) (hg : g1 ≤ 8) (hd : dp + 7 < recursionLimit) (hx : pt ≤ zv)
    (hret : ∀ (r : Bool) h' tk', r = ((pt == bg) || (cAt zi bg zv (pt - 1) == 10)) → Fr h₀ L h' m → News h₀ L h' news → Q (.bool r) { s with heap := h', toks := tk' }) :
    wpAny (model PR w) (ktrTop dp un gd cn cs L a ccd cl outer) (call (.ref 133) [.ref bx]) Q E s := by
  refine bol_core B F X' (led_in N hm1 hm2 hm3 hm4 hm5) T hk hI hz hb1 hb2 hb3 hg hd hx ?_
  intro r h' tk' er F' N'
  exact hret r h' tk' er F' (fun p hp => N' p (.tail _ (.tail _ (.tail _ (.tail _ (.tail _ hp))))))
local macro_rules | `(tactic| walk_at "call ref") => `(tactic| (k_here; (with_reducible show wpAny _ _ (call (Value.ref 133) [Value.ref _]) _ _ _); k_dflt (refine' bol_use ?k1 ?k2 ?k3 ?k4 ?k5 ?k6 ?k7 ?k8 ?k9 ?k10 ?k11 ?k12 ?k13 ?k14 ?k15 ?k16 ?k17 ?k18 ?k19 ?_; (case k1 | k2 | k3 | k4 | k5 => k_asm); (case k6 => first | rfl | assumption); (case k10 | k11 | k8 | k9 | k7 => k_mem); (case k12 => assumption); (case k13 | k14 | k15 | k16 | k17 => omega); (case k18 => ktr_room); (case k19 => omega); k_whole); intro r' h' tk' er' F' N'; subst er'; (try k_sweep)))
theorem eol_core {dp un : Nat} {gd : Option (List Code)} {cn : Str} {cs : Scope} {a : Addr} {ccd : Value} {cl : List (Str × Addr)} {outer : List Env} {A₀ : Around} {base h₀ : Heap} {rest : List (Addr × Obj)} {Q : Value → Shared → Prop}
    (B : Below A₀ base outer h₀) (F : Fr h₀ L s.heap m) (X' : (Mine.hd.heap_39 w.params).In h₀) (N : News h₀ L s.heap (ledB w.params tt uu tt' uu' nm lc tx td bx bd mk lr zs n2 g1 pt bg zv c1 c2 rest)) (T : Top Mine.hd.view_39 loose mean mg mb h₀) (hk : cs.kind = .function)
    (hI : IntsAre zs zi) (hz : zi.length = 8) (hb1 : 1 ≤ bg) (hb2 : bg ≤ zv) (hb3 : zv ≤ g1 + 1) (hg : g1 ≤ 8) (hd : dp + 7 < recursionLimit) 
    (hret : ∀ (r : Bool) h' tk', r = ((pt == zv) || (cAt zi bg zv pt == 10)) → Fr h₀ L h' m → News h₀ L h' (ledB w.params tt uu tt' uu' nm lc tx td bx bd mk lr zs n2 g1 pt bg zv c1 c2 rest) → Q (.bool r) { s with heap := h', toks := tk' }) :
    wpAny (model PR w) (ktrTop dp un gd cn cs L a ccd cl outer) (call (.ref 140) [.ref bx]) Q E s := by
  refine wpAny_call ?_
  dsimp only [ledB] at N hret
  k_dflt cell_enter
  k_steps
  all_goals refine hret _ _ _ ?_ (by assumption) (by assumption)
  all_goals first | rfl | exact or_l (beq_iff_eq.mpr (by assumption)) | exact or_r (beq_eq_false_iff_ne.mpr (by assumption))

theorem eol_use {dp un : Nat} {gd : Option (List Code)} {cn : Str} {cs : Scope} {a : Addr} {ccd : Value} {cl : List (Str × Addr)} {outer : List Env} {A₀ : Around} {base h₀ : Heap} {news : List (Addr × Obj)} {Q : Value → Shared → Prop}
    (B : Below A₀ base outer h₀) (F : Fr h₀ L s.heap m) (X' : (Mine.hd.heap_39 w.params).In h₀) (N : News h₀ L s.heap news) (T : Top Mine.hd.view_39 loose mean mg mb h₀) (hk : cs.kind = .function)
    (hm1 : (lc, listOf zs.toArray n2) ∈ news) (hm2 : (tx, instObj 248 td) ∈ news) (hm3 : (td, dictOf (gapD w.params tt uu lc g1 8) 4) ∈ news) (hm4 : (bx, instObj 459 bd) ∈ news) (hm5 : (bd, dictOf (bufD w.params tt' uu' nm tx mk lr pt bg zv c1 c2) 20) ∈ news) (hI : IntsAre zs zi) (hz : zi.length = 8) (hb1 : 1 ≤ bg) (hb2 : bg ≤ zv) (hb3 : zv ≤ g1 + 1) (hg : g1 ≤ 8) (hd : dp + 7 < recursionLimit) 
    (hret : ∀ (r : Bool) h' tk', r = ((pt == zv) || (cAt zi bg zv pt == 10)) → Fr h₀ L h' m → News h₀ L h' news → Q (.bool r) { s with heap := h', toks := tk' }) :
    wpAny (model PR w) (ktrTop dp un gd cn cs L a ccd cl outer) (call (.ref 140) [.ref bx]) Q E s := by
  refine eol_core B F X' (led_in N hm1 hm2 hm3 hm4 hm5) T hk hI hz hb1 hb2 hb3 hg hd ?_
  intro r h' tk' er F' N'
  exact hret r h' tk' er F' (fun p hp => N' p (.tail _ (.tail _ (.tail _ (.tail _ (.tail _ hp))))))
local macro_rules | `(tactic| walk_at "call ref") => `(tactic| (k_here; (with_reducible show wpAny _ _ (call (Value.ref 140) [Value.ref _]) _ _ _); k_dflt (refine' eol_use ?k1 ?k2 ?k3 ?k4 ?k5 ?k6 ?k7 ?k8 ?k9 ?k10 ?k11 ?k12 ?k13 ?k14 ?k15 ?k16 ?k17 ?k18 ?_; (case k1 | k2 | k3 | k4 | k5 => k_asm); (case k6 => first | rfl | assumption); (case k10 | k11 | k8 | k9 | k7 => k_mem); (case k12 => assumption); (case k13 | k14 | k15 | k16 | k17 => omega); (case k18 => ktr_room); k_whole); intro r' h' tk' er' F' N'; subst er'; (try k_sweep)))
theorem item_code {X : Str} {i : Int} (h0 : 0 ≤ i) (h1 : i < X.length) : Array.getD (Txt.item X i).cps 0 0 = X.cps.toList.getD i.toNat 0 := by
  obtain ⟨n, rfl⟩ := Int.eq_ofNat_of_zero_le h0
  have hn : n < X.cps.size := Int.ofNat_lt.mp h1
  have e2 : seqIndex? (n : Int) X.length = some n := by
    unfold seqIndex?
    have h2 : ¬ ((n : Int) < 0) := by omega
    simp only [if_neg h2, Bool.and_eq_true, decide_eq_true_eq]
    rw [if_pos ⟨h0, h1⟩]; rfl
  have e : Txt.charAt X (n : Int) = some X.cps[n] := by
    unfold Txt.charAt
    rw [e2]
    simp [hn]
  unfold Txt.item
  rw [e]
  simp [List.getD_eq_getElem?_getD, hn]
section
variable {X : Str} {zi : List Int} {bg zv k : Int}
theorem due_after (hzi : ∀ j, j < X.length → zi.getD j 0 = Int.ofNat (X.cps.toList.getD j 0)) (hb1 : 1 ≤ bg) (hb3 : zv ≤ X.length + 1) (h : k < zv) (h' : bg ≤ k) : cAt zi bg zv k = ((Array.getD (Txt.item X (k - 1)).cps 0 0 : Nat) : Int) := by
  rw [item_code (by omega) (by omega), ← cAt_in (by omega) (by omega), hzi _ (by omega)]; rfl
theorem due_before (hzi : ∀ j, j < X.length → zi.getD j 0 = Int.ofNat (X.cps.toList.getD j 0)) (hb1 : 1 ≤ bg) (hb3 : zv ≤ X.length + 1) (h : bg < k) (h' : k ≤ zv) : cAt zi bg zv (k - 1) = ((Array.getD (Txt.item X (k - 2)).cps 0 0 : Nat) : Int) := by
  rw [due_after hzi hb1 hb3 (by omega) (by omega), show k - 1 - 1 = k - 2 by omega]
theorem due_hi (h : ¬ k < zv) : cAt zi bg zv k = -1 := (cAt_hi (by omega)).symm
theorem due_lo (h : ¬ bg < k) : cAt zi bg zv (k - 1) = -1 := (cAt_lo (by omega)).symm
theorem end3a {b : Bool} (h : k = bg) : (k == bg || b) = (k == bg) := by simp [h]
theorem end3b {c d : Int} (h : ¬ k = bg) (e : c = d) : (k == bg || c == 10) = (d == 10) := by simp [h, e]
end
theorem ne_same {prog : Program} {w : World} {A : Around} {E : Value → Shared → Prop} {s : Shared} {a b : Value} {da db : PyData} {as bs : List Addr} {Q : Value → Shared → Prop}
    (ra : Reads s.heap a da as) (rb : Reads s.heap b db bs) (ha : SeqAt.shaped da = true) (hb : SeqAt.shaped db = true) (hu : A.units + 64 < cLine) (e : da = db) (er : PyData.eqv db db = true) (h : Q (.bool false) s) : wpAny (model prog w) A (compareOp .NotEq a b) Q E s :=
  ne_dataH ra rb ha hb hu (by rw [e, er]; exact h)
theorem dints2 {a b c d : Int} (h1 : a = c) (h2 : b = d) : PyData.list [.int a, .int b] = PyData.list [.int c, .int d] := by rw [h1, h2]
theorem dbools4 {a b x y c d : Bool} (h1 : a = c) (h2 : b = d) : PyData.list [.bool x, .bool y, .bool a, .bool b] = PyData.list [.bool x, .bool y, .bool c, .bool d] := by rw [h1, h2]
theorem fill_State3 : True := by w_top off; trivial
local macro_rules | `(tactic| walk_at "compareOp NotEq ref ref") => `(tactic| (k_here; refine stopHere ?_))
structure IsInt (d : Int) (s : Shared) (v : Value) (s' : Shared) : Prop where
  ex : ∃ t tk', v = .int d t ∧ s' = { s with toks := tk' }
structure IsBool (b : Bool) (s : Shared) (v : Value) (s' : Shared) : Prop where
  ex : ∃ tk', v = .bool b ∧ s' = { s with toks := tk' }
theorem IsInt.of {d d' : Int} {t : Tok} {s : Shared} {tk' : Nat} (e : d = d') : IsInt d s (.int d' t) { s with toks := tk' } := ⟨t, tk', by rw [e], rfl⟩
theorem IsBool.of {b b' : Bool} {s : Shared} {tk' : Nat} (e : b = b') : IsBool b s (.bool b') { s with toks := tk' } := ⟨tk', by rw [e], rfl⟩
theorem evcutI {M : Model} {A : Around} {e : PySem.Expr} {env : Env} {Q E : Value → Shared → Prop} {s : Shared} (d : Int) (h1 : wpAny M A (eval e env) (IsInt d s) (fun _ _ => False) s)
    (h2 : ∀ t tk', Q (.int d t) { s with toks := tk' }) : wpAny M A (eval e env) Q E s := by
  refine wpAny_mono h1 (fun v s' h => ?_) (fun _ _ h => h.elim)
  obtain ⟨t, tk', rfl, rfl⟩ := h.ex
  exact h2 t tk'
theorem evcutB {M : Model} {A : Around} {e : PySem.Expr} {env : Env} {Q E : Value → Shared → Prop} {s : Shared} (b : Bool) (h1 : wpAny M A (eval e env) (IsBool b s) (fun _ _ => False) s)
    (h2 : ∀ tk', Q (.bool b) { s with toks := tk' }) : wpAny M A (eval e env) Q E s := by
  refine wpAny_mono h1 (fun v s' h => ?_) (fun _ _ h => h.elim)
  obtain ⟨tk', rfl, rfl⟩ := h.ex
  exact h2 tk'
local macro_rules | `(tactic| walk_at "eval IfExp") => `(tactic| (k_here; (fail_if_success (with_reducible show wpAny _ _ _ _ (fun _ _ => False) _)); refine stopHere ?_))
local macro_rules | `(tactic| walk_at "eval BoolOp") => `(tactic| (k_here; (fail_if_success (with_reducible show wpAny _ _ _ _ (fun _ _ => False) _)); refine stopHere ?_))
section
variable {w : World} {loose : List Str} {mean : ExcName → Option Value} {mg mb : Str → Option Value} {H0 : Heap} {L fa dk di : Addr} {cd : Value} {m : Str → Option Value} {s : Shared} {E : Value → Shared → Prop} {Q : Flow → Shared → Prop}
  {o : Obj} {n1 : Nat} {ys : List Value} {ds : List Int} {k : Int} {t : Tok} {one text other : Str} {t1 t2 t3 : Tok}


variable {bx bd tx td mk md lr lc dr : Addr} {tt uu tt' uu' : Nat → Tok} {nm : Str} {t9 : Tok} {zs cs : List Value} {zi ci : List Int} {n2 n3 n4 : Nat} {orow : Obj} {i1 i2 : Int} {t4 t5 : Tok} {pt bg zv c1 c2 g1 : Int}
theorem st_end {h₀ h' : Heap} {J : (Str → Option Value) → List (Addr × Obj) → Prop} {m' : Str → Option Value} {s₁ : Shared} {tk : Nat} {P : Params} {u0 : Nat → Tok} {p0 : Int} {x1 x2 x3 x4 : Addr × Obj} {rest own : List (Addr × Obj)}
    (F : Fr h₀ L h' m') (N : News h₀ L h' (x1 :: x2 :: x3 :: x4 :: ledB P tt uu tt' uu' nm lc tx td bx bd mk lr zs n2 g1 pt bg zv c1 c2 (rest ++ own))) (hoff : TbOff own (ledB P tt uu tt' u0 nm lc tx td bx bd mk lr zs n2 g1 p0 bg zv c1 c2 rest))
    (hj : J m' (ledB P tt uu tt' uu' nm lc tx td bx bd mk lr zs n2 g1 pt bg zv c1 c2 rest)) : TbEnd h₀ L J own s₁ { s₁ with heap := h', toks := tk } := by
  refine ⟨h', tk, m', _, _, rfl, F, N, (fun p hp => ?_), (fun p hp => ?_), (fun p hp q hq => ?_), hj⟩
  · refine .tail _ (.tail _ (.tail _ (.tail _ ?_)))
    rcases List.mem_cons.mp hp with rfl | hp
    · exact .head _
    rcases List.mem_cons.mp hp with rfl | hp
    · exact .tail _ (.head _)
    rcases List.mem_cons.mp hp with rfl | hp
    · exact .tail _ (.tail _ (.head _))
    rcases List.mem_cons.mp hp with rfl | hp
    · exact .tail _ (.tail _ (.tail _ (.head _)))
    rcases List.mem_cons.mp hp with rfl | hp
    · exact .tail _ (.tail _ (.tail _ (.tail _ (.head _))))
    exact .tail _ (.tail _ (.tail _ (.tail _ (.tail _ (List.mem_append_left _ hp)))))
  · exact .tail _ (.tail _ (.tail _ (.tail _ (.tail _ (.tail _ (.tail _ (.tail _ (.tail _ (List.mem_append_right _ hp)))))))))
  · dsimp only [ledB] at hq hoff
    rcases List.mem_cons.mp hq with rfl | hq
    · exact hoff p hp _ (.head _)
    rcases List.mem_cons.mp hq with rfl | hq
    · exact hoff p hp _ (.tail _ (.head _))
    rcases List.mem_cons.mp hq with rfl | hq
    · exact hoff p hp _ (.tail _ (.tail _ (.head _)))
    rcases List.mem_cons.mp hq with rfl | hq
    · exact hoff p hp _ (.tail _ (.tail _ (.tail _ (.head _))))
    rcases List.mem_cons.mp hq with rfl | hq
    · exact hoff p hp (bd, dictOf (bufD P tt' u0 nm tx mk lr p0 bg zv c1 c2) 20) (.tail _ (.tail _ (.tail _ (.tail _ (.head _)))))
    exact hoff p hp q (.tail _ (.tail _ (.tail _ (.tail _ (.tail _ hq)))))
theorem state_core {dp un : Nat} {gd : Option (List Code)} {cn : Str} {cs : Scope} {a : Addr} {ccd : Value} {cl : List (Str × Addr)} {outer : List Env} {A₀ : Around} {base h₀ : Heap} {rest : List (Addr × Obj)} {Q : Value → Shared → Prop} {X : Str} {ta tb tc : Tok}
    (B : Below A₀ base outer h₀) (F : Fr h₀ L s.heap m) (X' : (Mine.hd.heap_39 w.params).In h₀) (N : News h₀ L s.heap (ledB w.params tt uu tt' uu' nm lc tx td bx bd mk lr zs n2 g1 pt bg zv c1 c2 rest)) (T : Top Mine.hd.view_39 loose mean mg mb h₀) (hk : cs.kind = .function)
    (hd : dp + 8 < recursionLimit) (hu : un + 200 < 9900) (hX : X.length ≤ 8) (aX : AsciiS X) (hg : g1 = X.length) (hb1 : 1 ≤ bg) (hb2 : bg ≤ zv) (hb3 : zv ≤ X.length + 1) (hI : IntsAre zs zi) (hz : zi.length = 8) (hzi : ∀ j, j < X.length → zi.getD j 0 = Int.ofNat (X.cps.toList.getD j 0))
    (q1 : @LT.lt Nat _ bd bx) (q2 : @LT.lt Nat _ bx td) (q4 : @LT.lt Nat _ td tx) (q5 : @LT.lt Nat _ tx lc) (hrest : ∀ p ∈ rest, p.1 ≠ bd)
    (hret : ∀ h' tk' (_t : Tok) u p, Fr h₀ L h' m → News h₀ L h' (ledB w.params tt uu tt' u nm lc tx td bx bd mk lr zs n2 g1 p bg zv c1 c2 rest) → Q (.bool true) { s with heap := h', toks := tk' }) :
    wpAny (model PR w) (ktrTop dp un gd cn cs L a ccd cl outer) (call (.ref 482) [.ref bx, .int bg ta, .int zv tb, .str X tc]) Q E s := by
  refine wpAny_call ?_
  k_dflt cell_enter
  k_steps
  all_goals unfold Stop
  refine' st_iter ?hh ?hr ?F ?N hb1 hb2 ?hb3 ?m1 ?m2 ?m3 ?m4 ?_ ?_
  case hr => assumption
  case F => k_asm
  case N => k_asm
  case hh => rfl
  case m1 => rfl
  case m2 => rfl
  case m3 => rfl
  case m4 => rfl
  case hb3 => omega
  · intro i k t m₁ u p h tk own hk1 hk2 hoff F₁ N₁
    have hg8 : g1 ≤ 8 := by omega
    have hb3' : zv ≤ g1 + 1 := by omega
    dsimp only [ledB] at N₁ hoff
    have hro : ∀ p ∈ rest ++ own, p.1 ≠ bd := fun p hp => (List.mem_append.mp hp).elim (hrest p) fun h => hoff p h _ (.tail _ (.tail _ (.tail _ (.tail _ (.head _)))))
    have hA : k < zv → cAt zi bg zv k = ((Array.getD (Txt.item X (k - 1)).cps 0 0 : Nat) : Int) := fun q => due_after hzi hb1 hb3 q hk1
    have hB : bg < k → cAt zi bg zv (k - 1) = ((Array.getD (Txt.item X (k - 2)).cps 0 0 : Nat) : Int) := fun q => due_before hzi hb1 hb3 q hk2
    have hA' : ¬ k < zv → cAt zi bg zv k = -1 := due_hi
    have hB' : ¬ bg < k → cAt zi bg zv (k - 1) = -1 := due_lo
    k_steps
    unfold Stop
    refine evcutI (cAt zi bg zv k) ?_ ?_
    · k_steps
      · exact .of (hA (by assumption))
      · exact .of (hA' (by assumption))
    intro t1 tk1
    k_steps
    unfold Stop
    refine evcutI (cAt zi bg zv (k - 1)) ?_ ?_
    · k_steps
      · exact .of (hB (by assumption))
      · exact .of (hB' (by assumption))
    intro t2 tk2
    k_steps
    unfold Stop
    k_dflt (refine ne_same (by ke_read) (by ke_read) (by ke_shaped) (by ke_shaped) (by ke_room) (dints2 rfl rfl) (by simp [PyData.eqv, PyData.eqvAll]) ?_)
    k_steps
    unfold Stop
    refine evcutB ((k == bg) || (cAt zi bg zv (k - 1) == 10)) ?_ ?_
    · k_steps
      · exact .of (end3a (by assumption))
      · exact .of (end3b (by assumption) rfl)
    intro tk3
    k_steps
    unfold Stop
    refine evcutB ((k == zv) || (cAt zi bg zv k == 10)) ?_ ?_
    · k_steps
      · exact .of (end3a (by assumption))
      · exact .of (end3b (by assumption) rfl)
    intro tk4
    k_steps
    unfold Stop
    k_dflt (refine ne_same (by ke_read) (by ke_read) (by ke_shaped) (by ke_shaped) (by ke_room) (dbools4 rfl rfl) (by simp [PyData.eqv, PyData.eqvAll]) ?_)
    k_steps
    rename News _ _ _ _ => N9
    exact st_end (by assumption) N9 hoff ⟨⟨_, _, rfl⟩, rfl, rfl, rfl, rfl⟩
  · intro m₁ u p h tk F₁ N₁
    k_steps
    exact hret _ _ tk _ _ (by assumption) (by assumption)
end
end GStB
section GToldP
abbrev sgl (c : Nat) : Str := ⟨#[c]⟩
theorem told_listN {X : Str} {zi : List Int} {a b : Nat} (hzi : ∀ j, j < X.length → zi.getD j 0 = Int.ofNat (X.cps.toList.getD j 0)) (hz : X.length ≤ zi.length) (h1 : a ≤ b) (h2 : b ≤ X.length) :
    List.take (min b zi.length - a) (List.drop a zi) = ((X.cps.toList.drop a).take (b - a)).map Int.ofNat := by
  have hXl : X.cps.toList.length = X.length := by simp [Str.length]
  rw [Nat.min_eq_left (Nat.le_trans h2 hz)]
  apply List.ext_getElem
  · rw [List.length_take, List.length_drop, List.length_map, List.length_take, List.length_drop, hXl, Nat.min_eq_left (Nat.sub_le_sub_right (Nat.le_trans h2 hz) a), Nat.min_eq_left (Nat.sub_le_sub_right h2 a)]
  · intro i p q
    rw [List.length_take] at p
    have hi : a + i < b := Nat.add_lt_of_lt_sub' (Nat.lt_of_lt_of_le p (Nat.min_le_left _ _))
    have hx : a + i < X.length := Nat.lt_of_lt_of_le hi h2
    rw [List.getElem_take, List.getElem_drop, List.getElem_map, List.getElem_take, List.getElem_drop]
    have e := hzi (a + i) hx
    rw [List.getD_eq_getElem?_getD, List.getD_eq_getElem?_getD, List.getElem?_eq_getElem (Nat.lt_of_lt_of_le hx hz), List.getElem?_eq_getElem (hXl.symm ▸ hx)] at e
    exact e
theorem told_list {X : Str} {zi : List Int} {lo hi : Int} (hzi : ∀ j, j < X.length → zi.getD j 0 = Int.ofNat (X.cps.toList.getD j 0)) (hz : zi.length = 8) (hX : X.length ≤ 8) (h1 : 1 ≤ lo) (h2 : lo ≤ hi) (h3 : hi ≤ X.length + 1) :
    List.take (min (hi - 1).toNat zi.length - (lo - 1).toNat) (List.drop (lo - 1).toNat zi) = ((X.cps.toList.drop (lo - 1).toNat).take (hi - lo).toNat).map Int.ofNat := by
  obtain ⟨a, ha⟩ := Int.eq_ofNat_of_zero_le (Int.sub_nonneg_of_le h1)
  obtain ⟨b, hb⟩ := Int.eq_ofNat_of_zero_le (Int.sub_nonneg_of_le (Int.le_trans h1 h2))
  have e : hi - lo = ((b - a : Nat) : Int) := by omega
  rw [ha, hb, e, Int.toNat_natCast, Int.toNat_natCast, Int.toNat_natCast]
  exact told_listN hzi (by rw [hz]; exact hX) (by omega) (by omega)
structure ToldJ (cds : List Nat) (news0 : List (Addr × Obj)) (i : Nat) (ys : List Value) (nw : List (Addr × Obj)) : Prop where
  nw : nw = news0
  ex : ∃ l : List (Str × Tok), ys = strValues l ∧ l.map (·.1) = (cds.take i).map sgl
theorem ToldJ.snoc {cds : List Nat} {news0 : List (Addr × Obj)} {i c : Nat} {l : List (Str × Tok)} {x : Str} {t : Tok} (hl : l.map (·.1) = (cds.take i).map sgl) (hc : cds[i]? = some c) (hx : x = sgl c) : ToldJ cds news0 (i + 1) (strValues l ++ [.str x t]) news0 :=
  ⟨rfl, l ++ [(x, t)], by simp [strValues], by rw [List.map_append, hl, List.take_add_one, hc, hx]; simp⟩
theorem join_sgl : ∀ (cds : List Nat), (Txt.join (Str.ofString "") (cds.map sgl)).cps.toList = cds := by
  intro cds
  have e0 : (Str.ofString "").cps = #[] := by decide
  have key : ∀ (l : List Nat) (acc : Array Nat), ((l.map sgl).foldl (fun acc p => acc ++ (Str.ofString "").cps ++ p.cps) acc).toList = acc.toList ++ l := by
    intro l
    induction l with
    | nil => intro acc; simp
    | cons c r ih => intro acc; rw [List.map_cons, List.foldl_cons, ih, e0]; simp
  cases cds with
  | nil => rfl
  | cons c r =>
    show ((r.map sgl).foldl _ (sgl c).cps).toList = _
    rw [key]; rfl
end GToldP
section GTold2
theorem fill_Told2 : True := by w_top off; trivial
theorem ite_min (a b : Int) : (if b < a then b else a) = min a b := by omega
theorem ite_max (a b : Int) : (if b > a then b else a) = max a b := by omega
local macro_rules | `(tactic| walk_at "eval ListComp") => `(tactic| (k_here; refine stopHere ?_))
local macro_rules | `(tactic| walk_at "CompSrc") => `(tactic| (k_here; refine stopHere ?_))
section
variable {w : World} {loose : List Str} {mean : ExcName → Option Value} {mg mb : Str → Option Value} {H0 : Heap} {L fa dk di : Addr} {cd : Value} {m : Str → Option Value} {s : Shared} {E : Value → Shared → Prop} {Q : Flow → Shared → Prop}
  {o : Obj} {n1 : Nat} {ys : List Value} {ds : List Int} {k : Int} {t : Tok} {one text other : Str} {t1 t2 t3 : Tok}


variable {bx bd tx td mk md lr lc dr : Addr} {tt uu tt' uu' : Nat → Tok} {nm : Str} {t9 : Tok} {zs cs : List Value} {zi ci : List Int} {n2 n3 n4 : Nat} {orow : Obj} {i1 i2 : Int} {t4 t5 : Tok} {pt bg zv c1 c2 g1 : Int}

theorem told_good {dp un : Nat} {gd : Option (List Code)} {cn : Str} {cs : Scope} {a : Addr} {ccd : Value} {cl : List (Str × Addr)} {outer : List Env} {A₀ : Around} {base h₀ : Heap} {rest : List (Addr × Obj)} {Q : Value → Shared → Prop} {X : Str} 
    (B : Below A₀ base outer h₀) (F : Fr h₀ L s.heap m) (X' : (Mine.hd.heap_39 w.params).In h₀) (N : News h₀ L s.heap (ledB w.params tt uu tt' uu' nm lc tx td bx bd mk lr zs n2 g1 pt bg zv c1 c2 rest)) (T : Top Mine.hd.view_39 loose mean mg mb h₀) (hk : cs.kind = .function)
    (hd : dp + 8 < recursionLimit) (hX : X.length ≤ 8) (aX : AsciiS X) (hg : g1 = X.length) (hb1 : 1 ≤ bg) (hb2 : bg ≤ zv) (hb3 : zv ≤ X.length + 1) (hI : IntsAre zs zi) (hz : zi.length = 8) (hzi : ∀ j, j < X.length → zi.getD j 0 = Int.ofNat (X.cps.toList.getD j 0))
    (hgood : bg ≤ min i1 i2 ∧ max i1 i2 ≤ zv)
    (hret : ∀ Y h' tk' t, Y.cps.toList = (X.cps.toList.drop (min i1 i2 - 1).toNat).take (max i1 i2 - min i1 i2).toNat → Fr h₀ L h' m → News h₀ L h' (ledB w.params tt uu tt' uu' nm lc tx td bx bd mk lr zs n2 g1 pt bg zv c1 c2 rest) → Q (.str Y t) { s with heap := h', toks := tk' }) :
    wpAny (model PR w) (ktrTop dp un gd cn cs L a ccd cl outer) (call (.ref 487) [.ref bx, .int i1 t4, .int i2 t5]) Q E s := by
  refine wpAny_call ?_
  dsimp only [ledB] at N hret
  have f1 : bg ≤ (if i2 < i1 then i2 else i1) := by rw [ite_min]; exact hgood.1
  have f2 : (if i2 > i1 then i2 else i1) ≤ zv := by rw [ite_max]; exact hgood.2
  have f3 : (if i2 < i1 then i2 else i1) ≤ (if i2 > i1 then i2 else i1) := by rw [ite_min, ite_max]; exact Int.le_trans (Int.min_le_left _ _) (Int.le_max_left _ _)
  clear hgood
  k_dflt cell_enter
  k_steps
  unfold Stop
  k_dflt (refine LCg.ListComp_U (F₀ := by k_asm) (by with_unfolding_all rfl) (by decide) (by rfl) (by decide) (by rfl) ?_)
  k_steps
  unfold Stop
  have hlo : 1 ≤ (if i2 < i1 then i2 else i1) := Int.le_trans hb1 f1
  have hlh := f3
  have hhi : (if i2 > i1 then i2 else i1) ≤ X.length + 1 := Int.le_trans f2 hb3
  rename IntsAre _ _ => hI9
  rw [told_list hzi hz hX hlo hlh hhi] at hI9
  obtain ⟨cds, hcds⟩ : ∃ cds : List Nat, cds = (X.cps.toList.drop ((if i2 < i1 then i2 else i1) - 1).toNat).take ((if i2 > i1 then i2 else i1) - (if i2 < i1 then i2 else i1)).toNat := ⟨_, rfl⟩
  rw [← hcds] at hI9
  have hXl : X.cps.toList.length ≤ 8 := by rw [Array.length_toList]; exact hX
  have hlen : cds.length ≤ 8 := by
    rw [hcds, List.length_take, List.length_drop]
    exact Nat.le_trans (Nat.min_le_right _ _) (Nat.le_trans (Nat.sub_le _ _) hXl)
  have hasc : ∀ c ∈ cds, c < 128 := fun c hc => aX c (by rw [hcds] at hc; exact List.mem_of_mem_drop (List.mem_of_mem_take hc))
  have hws := hI9.length
  k_dflt (refine LCg.CompSrc.ledger (by rfl) (by k_asm) (by k_asm) (by k_mem) (by rw [PySem.sizeLine_eq, List.size_toArray, hws, List.length_map]; omega) ?_)
  intro g'
  refine comp_gen (ToldJ cds _) ⟨rfl, [], rfl, by simp⟩ ?_ ?_
  · rintro i ys' nw v I oI C oC D m₂ h tk E' hi ⟨rfl, l, rfl, hl⟩ hP hC hx F' N' off ne
    have hil : i < cds.length := by rw [List.size_toArray, hws, List.length_map] at hi; exact hi
    obtain ⟨t9, ht9⟩ := hI9.get i (Int.ofNat cds[i]) (by simp [hil])
    have hv : v = .int (Int.ofNat cds[i]) t9 := by
      rw [List.getElem?_toArray, ht9] at hP; exact (Option.some.inj hP).symm
    subst hv
    have hc9 : cds[i]? = some cds[i] := by simp [hil]
    have hcl : cds[i] < 128 := hasc _ (List.getElem_mem hil)
    generalize cds[i] = c at *
    k_steps
    refine chr_of_range (Int.natCast_nonneg c) (by show (c : Int) ≤ _; omega) ?_
    k_steps
    exact LCg.CompEnd.intro (by assumption) (by assumption) _ (fun _ h => h) off (.inr ⟨_, .head _, rfl, _, rfl⟩) (ToldJ.snoc hl hc9 rfl)
  · rintro ys' nw ⟨rfl, l, rfl, hl⟩ D h' tk' F' N' off
    have hsz : cds.take (Array.size (List.toArray _)) = cds := List.take_of_length_le (Nat.le_of_eq (by rw [List.size_toArray, hws, List.length_map]))
    rw [hsz] at hl
    k_steps
    refine SC.join (l := l) (News.isList N' (by k_mem)) hl (joinOk_ones (fun p hp => ?_) ?_) fun t' k' => ?_
    · obtain ⟨q, hq, rfl⟩ := List.mem_map.mp hp
      rfl
    · rw [List.length_map]; omega
    have J := join_sgl cds
    rw [hcds] at J
    have hmn := ite_min i1 i2
    have hmx := ite_max i1 i2
    rw [hmn, hmx] at J
    k_steps
    rename News h₀ _ _ _ => N9
    exact hret _ _ _ _ (by rw [hcds, hmn, hmx]; exact J) (by assumption) (fun p hp => N9 p (.tail _ (.tail _ (.tail _ (.tail _ hp)))))
end
end GTold2
section GLitP
noncomputable def lawN (k : Nat) : Stmt := (lawBody[k]?).getD (.Pass default)
theorem inLit_slice {lit x : Str} {l u : Option Int} (h : InLit lit x) : InLit lit (Txt.slice x l u) := by
  intro c hc
  unfold Txt.slice at hc
  split at hc
  · exact h c hc
  · simp only [List.mem_filterMap] at hc
    obtain ⟨i, _, hi⟩ := hc
    exact h c (Array.mem_toList_iff.mpr (Array.mem_of_getElem? hi))
theorem inLit_app {lit x y : Str} (h : InLit lit x) (h' : InLit lit y) : InLit lit (x ++ y) := by
  intro c hc
  have e : (x ++ y).cps.toList = x.cps.toList ++ y.cps.toList := by
    show (x.cps ++ y.cps).toList = _
    simp
  rw [e] at hc
  exact (List.mem_append.mp hc).elim (h c) (h' c)
theorem ascii_lit {lit x : Str} (hl : AsciiS lit) (h : InLit lit x) : AsciiS x := fun c hc => hl c (h c hc)
theorem ascii_all {x : Str} (h : AsciiS x) : x.cps.all (· < 128) = true := by
  rw [Array.all_eq_true]
  intro i hi
  have := h x.cps[i] (by simp)
  simpa using this
end GLitP
section GSeg1
theorem fill_Seg1 : True := by w_top off; trivial
local macro_rules | `(tactic| walk_at "CompSrc") => `(tactic| (k_here; k_dflt (refine LCg.CompSrc.range (by rfl) (by k_asm) (by k_asm) (by assumption) (small_one (by omega) (by omega) (by omega) (by omega)) (rangeSize_nat _ _) (by rw [PySem.sizeLine_eq]; omega) ?_); intro g'))
section
variable {w : World} {loose : List Str} {mean : ExcName → Option Value} {mg mb : Str → Option Value} {H0 : Heap} {L fa dk di : Addr} {cd : Value} {m : Str → Option Value} {s : Shared} {E : Value → Shared → Prop} {Q : Flow → Shared → Prop}
  {o : Obj} {n1 : Nat} {ys : List Value} {ds : List Int} {k : Int} {t : Tok} {one text other : Str} {t1 t2 t3 : Tok}


theorem seg1
   (B : Below callerA H0 [] H0) (F : Fr H0 L s.heap m) (X : (Mine.hd.heap_39 w.params).In H0) (T : Top Mine.hd.view_39 loose mean mg mb H0)
   (N : News H0 L s.heap [(dk, listOf #[.ref di, .int k t] n1), (di, LCg.lst ys), (L+1, o)]) (hI : IntsAre ys ds) (hl : ds.length ≤ 63) (h1 : @LT.lt Nat _ di dk) (h2 : @LT.lt Nat _ (L+1) dk) (ho : Obj.data o = Data.cell (some (Value.ref dk)))
   (hk0 : 0 ≤ k) (hk1 : k < 40)
   (hq : ∀ X t' h' tk' k' t2, X.length ≤ 8 → InLit (Str.ofString "aBz\n b") X → k ≤ k' → k' ≤ k + 9 → Fr H0 L h' (fun y => if y = Str.ofString "text" then some (.str X t') else m y) → News H0 L h' [(dk, listOf #[.ref di, .int k' t2] n1), (di, LCg.lst ys), (L+1, o)] → Q .next { s with heap := h', toks := tk' })
   : wpAny (model PR w) (lawA L fa cd) (exec (lawN 1) (lawE L fa cd)) Q E s := by
  dsimp only [lawE, lawA, lawN, lawBody, lawScope, defAt, PySem.Challenge.pw_ok0059_01, List.getElem?_cons_succ, List.getElem?_cons_zero, Option.map_some, Option.getD_some]
  try k_fold
  k_steps
  refine comp_gen (DrawnJ (Str.ofString "aBz\n b") (k + 1) dk di n1 [(di, LCg.lst ys), (L+1, o)]) .zero ?_ ?_
  · rintro i zs nw v I oI C oC D m₂ h tk E' hi ⟨l, t2, rfl, hl', hin, rfl⟩ ⟨tv, rfl⟩ hC hx F' N' off ne
    have hk8 : 0 ≤ k + 1 + (i : Int) := by clear ne off; omega
    have hk9 : k + 1 + (i : Int) < 100 := by clear ne off; omega
    simp only [LCg.Off3, and_true] at off
    obtain ⟨⟨_, _, _⟩, ⟨_, _, _⟩, _, _, _⟩ := off
    k_steps
    exact .snoc hl' hin (by assumption) (by assumption)
  · rintro zs nw ⟨l, t2, rfl, hl', hin, rfl⟩ D h' tk' F' N' off
    k_steps
    refine SC.join (l := l) (News.isList N' (by k_mem)) rfl (joinOk_ones (fun p hp => ?_) ?_) fun t' k' => ?_
    · obtain ⟨q, hq, rfl⟩ := List.mem_map.mp hp
      exact (hin q hq).1
    · rw [List.length_map]; omega
    have J := join_in (lit := Str.ofString "aBz\n b") (l := l.map (·.1)) (fun p hp => by
      obtain ⟨q, hq, rfl⟩ := List.mem_map.mp hp
      exact hin q hq)
    generalize Txt.join _ _ = X at J ⊢
    obtain ⟨J1, J2⟩ := J
    rw [List.length_map] at J2
    k_steps
    rename News _ _ _ _ => N9
    have G : News _ _ _ _ := fun p hp => N9 p (.tail _ hp)
    refine hq X _ _ _ _ t2 ?_ J1 ?_ ?_ (by assumption) G
    all_goals omega
end
theorem fill_Seg2 : True := by w_top off; trivial
section
variable {w : World} {loose : List Str} {mean : ExcName → Option Value} {mg mb : Str → Option Value} {H0 : Heap} {L fa dk di : Addr} {cd : Value} {m : Str → Option Value} {s : Shared} {E : Value → Shared → Prop} {Q : Flow → Shared → Prop}
  {o : Obj} {n1 : Nat} {ys : List Value} {ds : List Int} {k : Int} {t : Tok} {one text other : Str} {t1 t2 t3 : Tok}


theorem seg2
   (B : Below callerA H0 [] H0) (F : Fr H0 L s.heap m) (X : (Mine.hd.heap_39 w.params).In H0) (T : Top Mine.hd.view_39 loose mean mg mb H0)
   (N : News H0 L s.heap [(dk, listOf #[.ref di, .int k t] n1), (di, LCg.lst ys), (L+1, o)]) (hI : IntsAre ys ds) (hl : ds.length ≤ 63) (h1 : @LT.lt Nat _ di dk) (h2 : @LT.lt Nat _ (L+1) dk) (ho : Obj.data o = Data.cell (some (Value.ref dk)))
   (hk0 : 0 ≤ k) (hk1 : k < 40)
   (hq : ∀ X t' h' tk' k' t2, X.length ≤ 6 → InLit (Str.ofString "abAB") X → k ≤ k' → k' ≤ k + 9 → Fr H0 L h' (fun y => if y = Str.ofString "one" then some (.str X t') else m y) → News H0 L h' [(dk, listOf #[.ref di, .int k' t2] n1), (di, LCg.lst ys), (L+1, o)] → Q .next { s with heap := h', toks := tk' })
   : wpAny (model PR w) (lawA L fa cd) (exec (lawN 2) (lawE L fa cd)) Q E s := by
  dsimp only [lawE, lawA, lawN, lawBody, lawScope, defAt, PySem.Challenge.pw_ok0059_01, List.getElem?_cons_succ, List.getElem?_cons_zero, Option.map_some, Option.getD_some]
  try k_fold
  k_steps
  refine comp_gen (DrawnJ (Str.ofString "abAB") (k + 1) dk di n1 [(di, LCg.lst ys), (L+1, o)]) .zero ?_ ?_
  · rintro i zs nw v I oI C oC D m₂ h tk E' hi ⟨l, t2, rfl, hl', hin, rfl⟩ ⟨tv, rfl⟩ hC hx F' N' off ne
    have hk8 : 0 ≤ k + 1 + (i : Int) := by clear ne off; omega
    have hk9 : k + 1 + (i : Int) < 100 := by clear ne off; omega
    simp only [LCg.Off3, and_true] at off
    obtain ⟨⟨_, _, _⟩, ⟨_, _, _⟩, _, _, _⟩ := off
    k_steps
    exact .snoc hl' hin (by assumption) (by assumption)
  · rintro zs nw ⟨l, t2, rfl, hl', hin, rfl⟩ D h' tk' F' N' off
    k_steps
    refine SC.join (l := l) (News.isList N' (by k_mem)) rfl (joinOk_ones (fun p hp => ?_) ?_) fun t' k' => ?_
    · obtain ⟨q, hq, rfl⟩ := List.mem_map.mp hp
      exact (hin q hq).1
    · rw [List.length_map]; omega
    have J := join_in (lit := Str.ofString "abAB") (l := l.map (·.1)) (fun p hp => by
      obtain ⟨q, hq, rfl⟩ := List.mem_map.mp hp
      exact hin q hq)
    generalize Txt.join _ _ = X at J ⊢
    obtain ⟨J1, J2⟩ := J
    rw [List.length_map] at J2
    k_steps
    rename News _ _ _ _ => N9
    have G : News _ _ _ _ := fun p hp => N9 p (.tail _ hp)
    refine hq X _ _ _ _ t2 ?_ J1 ?_ ?_ (by assumption) G
    all_goals omega
end
end GSeg1
section GSeg34
theorem fill_Seg34 : True := by w_top off; trivial
theorem other_len {one x : Str} {a b c d : Option Int} (l1 : one.length ≤ 6) (hx : x.length ≤ 2) : (Txt.slice one a b ++ x ++ Txt.slice one c d).length ≤ 20 := by
  have e1 := Txt.slice_le one a b
  have e2 := Txt.slice_le one c d
  rw [PySem.Str.length_append, PySem.Str.length_append]
  omega
section
variable {w : World} {loose : List Str} {mean : ExcName → Option Value} {mg mb : Str → Option Value} {H0 : Heap} {L fa dk di : Addr} {cd : Value} {m : Str → Option Value} {s : Shared} {E : Value → Shared → Prop} {Q : Flow → Shared → Prop}
  {o : Obj} {n1 : Nat} {ys : List Value} {ds : List Int} {k : Int} {t : Tok} {one text other : Str} {t1 t2 t3 : Tok}


theorem seg3
   (B : Below callerA H0 [] H0) (F : Fr H0 L s.heap m) (X : (Mine.hd.heap_39 w.params).In H0) (T : Top Mine.hd.view_39 loose mean mg mb H0)
   (N : News H0 L s.heap [(dk, listOf #[.ref di, .int k t] n1), (di, LCg.lst ys), (L+1, o)]) (hI : IntsAre ys ds) (hl : ds.length ≤ 63) (h1 : @LT.lt Nat _ di dk) (h2 : @LT.lt Nat _ (L+1) dk) (ho : Obj.data o = Data.cell (some (Value.ref dk)))
   (hk0 : 0 ≤ k) (hk1 : k < 40)
   (m1 : m (Str.ofString "one") = some (.str one t1)) (m2 : m (Str.ofString "text") = some (.str text t2))
   (hq : ∀ r t' h' tk' k' t2' m', 0 ≤ r → r < 4 → k ≤ k' → k' ≤ k + 1 → m' (Str.ofString "one") = some (.str one t1) → m' (Str.ofString "text") = some (.str text t2) → m' (Str.ofString "other") = some (.str one t1) → m' (Str.ofString "way") = some (.int r t') → Fr H0 L h' m' → News H0 L h' [(dk, listOf #[.ref di, .int k' t2'] n1), (di, LCg.lst ys), (L+1, o)] → Q .next { s with heap := h', toks := tk' })
   : wpAny (model PR w) (lawA L fa cd) (exec (lawN 3) (lawE L fa cd)) Q E s := by
  dsimp only [lawE, lawA, lawN, lawBody, lawScope, defAt, PySem.Challenge.pw_ok0059_01, List.getElem?_cons_succ, List.getElem?_cons_zero, Option.map_some, Option.getD_some]
  try k_fold
  k_steps
  rename News _ _ _ _ => N9
  rename Fr _ _ _ _ => F9
  exact hq _ _ _ _ _ _ _ (by assumption) (by assumption) (by omega) (by omega) (by exact m1) (by exact m2) (by rfl) (by rfl) F9 (fun p hp => N9 p (.tail _ hp))
theorem seg4 {way : Int}
   (B : Below callerA H0 [] H0) (F : Fr H0 L s.heap m) (X : (Mine.hd.heap_39 w.params).In H0) (T : Top Mine.hd.view_39 loose mean mg mb H0)
   (N : News H0 L s.heap [(dk, listOf #[.ref di, .int k t] n1), (di, LCg.lst ys), (L+1, o)]) (hI : IntsAre ys ds) (hl : ds.length ≤ 63) (h1 : @LT.lt Nat _ di dk) (h2 : @LT.lt Nat _ (L+1) dk) (ho : Obj.data o = Data.cell (some (Value.ref dk)))
   (hk0 : 0 ≤ k) (hk1 : k < 40)
   (m1 : m (Str.ofString "one") = some (.str one t1)) (m2 : m (Str.ofString "text") = some (.str text t2)) (m3 : m (Str.ofString "other") = some (.str one t1)) (m4 : m (Str.ofString "way") = some (.int way t3)) (hw0 : 0 ≤ way) (hw1 : way < 4) (l1 : one.length ≤ 6) (hin : InLit (Str.ofString "abAB") one)
   (hq : ∀ other' t' h' tk' k' t2' m', other'.length ≤ 20 → InLit (Str.ofString "abAB") other' → k ≤ k' → k' ≤ k + 2 → m' (Str.ofString "one") = some (.str one t1) → m' (Str.ofString "text") = some (.str text t2) → m' (Str.ofString "other") = some (.str other' t') → Fr H0 L h' m' → News H0 L h' [(dk, listOf #[.ref di, .int k' t2'] n1), (di, LCg.lst ys), (L+1, o)] → Q .next { s with heap := h', toks := tk' })
   : wpAny (model PR w) (lawA L fa cd) (exec (lawN 4) (lawE L fa cd)) Q E s := by
  dsimp only [lawE, lawA, lawN, lawBody, lawScope, defAt, PySem.Challenge.pw_ok0059_01, List.getElem?_cons_succ, List.getElem?_cons_zero, Option.map_some, Option.getD_some]
  try k_fold
  k_steps
  all_goals rename News _ _ _ _ => N9
  all_goals rename Fr _ _ _ _ => F9
  all_goals first | exact hq one t1 _ _ k t m (by omega) hin (by omega) (by omega) m1 m2 m3 F9 N9 | skip
  all_goals refine hq _ _ _ _ _ _ _ ?_ ?_ ?_ ?_ (by exact m1) (by exact m2) (by rfl) F9 (fun p hp => N9 p (.tail _ hp))
  all_goals first | exact other_len l1 (by decide) | exact inLit_app (inLit_app (inLit_slice hin) (by decide)) (inLit_slice hin) | omega
end
end GSeg34
section GGapIns
theorem fill_GapIns : True := by w_top off; trivial
local macro_rules | `(tactic| walk_at "setItem ref ref") => `(tactic| (k_here; (with_reducible show wpAny _ _ (setItem (Value.ref _) (Value.ref _) (Value.ref _)) _ _ _); k_dflt (first | (refine' setSlice_none ?F ?N ?hv ?hw ?hm ?hm2 ?ne ?z ?z2 ?a ?b ?c ?_; (case F | N => k_asm); (case hm | hm2 => k_mem); (case hv | hw => l_ints); (case ne => k_ne); (case z => (simp only [List.length_take, List.length_drop]; omega)); (case z2 | a => omega); (case b | c => (simp only [List.length_take, List.length_drop]; omega)); intro h' F' N'; (try k_sweep)) | (refine' setSlice_front ?F ?N ?hv ?hw ?U ?hm2 ?ne ?z2 ?a ?b ?c ?_; (case F | N => k_asm); (case U => k_upd); (case hm2 => k_mem); (case hv | hw => l_ints); (case ne => k_ne); (case z2 | a | b | c => omega); intro h' F' N' hI'; (try k_sweep)))))
section
variable {w : World} {loose : List Str} {mean : ExcName → Option Value} {mg mb : Str → Option Value} {L : Addr} {m : Str → Option Value} {s : Shared} {E : Value → Shared → Prop} {dp un : Nat} {gd : Option (List Code)} {cn : Str} {cs : Scope} {a : Addr} {ccd : Value} {cl : List (Str × Addr)} {outer : List Env} {A₀ : Around} {base h₀ : Heap} {news : List (Addr × Obj)} {Q : Value → Shared → Prop}
  {dc lc tx td : Addr} {vs zs : List Value} {ci zi : List Int} {n2 n4 : Nat} {tt uu : Nat → Tok} {at0 : Int} {ta : Tok}
theorem gap_core {rest : List (Addr × Obj)}
    (B : Below A₀ base outer h₀) (F : Fr h₀ L s.heap m) (X : (Mine.hd.heap_39 w.params).In h₀) (N : News h₀ L s.heap ((dc, listOf vs.toArray n4) :: (tx, instObj 248 td) :: (td, dictOf (gapD w.params tt uu lc 0 8) 4) :: (lc, listOf zs.toArray n2) :: rest)) (T : Top Mine.hd.view_39 loose mean mg mb h₀) (hk : cs.kind = .function)
    (hI : IntsAre vs ci) (hl : ci.length ≤ 8) (hz : IntsAre zs zi) (hlz : zi.length = 8) (hat : at0 = 0) (d1 : @Ne Nat dc td) (d2 : @Ne Nat dc lc) (d3 : @Ne Nat tx td) (d4 : @Ne Nat tx lc) (d5 : @Ne Nat td lc) (r1 : ∀ p ∈ rest, p.1 ≠ td) (r2 : ∀ p ∈ rest, p.1 ≠ lc)
    (hd : dp + 4 < recursionLimit)
    (hret : ∀ v h' tk' ws (g1 g2 : Int) t1 t2, IntsAre ws (ci ++ zi.drop ci.length) → g1 = ci.length → g2 = 8 → Fr h₀ L h' m → News h₀ L h' ((dc, listOf vs.toArray n4) :: (tx, instObj 248 td) :: (td, dictOf [en w.params "room" (tt 0) (.int 8 (uu 0)), en w.params "cells" (tt 1) (.ref lc), en w.params "gap_start" (tt 2) (.int g1 t1), en w.params "gap_end" (tt 3) (.int g2 t2)] 4) :: (lc, listOf ws.toArray n2) :: rest) → Q v { s with heap := h', toks := tk' }) :
      wpAny (model PR w) (ktrTop dp un gd cn cs L a ccd cl outer) (call (.ref 217) [.ref tx, .int at0 ta, .ref dc]) Q E s := by
  subst hat
  refine wpAny_call ?_
  k_dflt cell_enter
  k_steps
  rename News h₀ _ _ _ => N9
  exact hret _ _ _ _ _ _ _ _ (by assumption) (Int.zero_add _) (by rw [hlz]; rfl) (by assumption) (fun p hp => N9 p (.tail _ hp))
theorem gap_use {news : List (Addr × Obj)}
    (B : Below A₀ base outer h₀) (F : Fr h₀ L s.heap m) (X : (Mine.hd.heap_39 w.params).In h₀) (N : News h₀ L s.heap news) (T : Top Mine.hd.view_39 loose mean mg mb h₀) (hk : cs.kind = .function)
    (m1 : (dc, listOf vs.toArray n4) ∈ news) (m2 : (tx, instObj 248 td) ∈ news) (m3 : (td, dictOf (gapD w.params tt uu lc 0 8) 4) ∈ news) (m4 : (lc, listOf zs.toArray n2) ∈ news)
    (hI : IntsAre vs ci) (hl : ci.length ≤ 8) (hz : IntsAre zs zi) (hlz : zi.length = 8) (hat : at0 = 0) (d1 : @Ne Nat dc td) (d2 : @Ne Nat dc lc) (d3 : @Ne Nat tx td) (d4 : @Ne Nat tx lc) (d5 : @Ne Nat td lc)
    (hd : dp + 4 < recursionLimit)
    (hret : ∀ v h' tk' ws (g1 g2 : Int) t1 t2, IntsAre ws (ci ++ zi.drop ci.length) → g1 = ci.length → g2 = 8 → Fr h₀ L h' m → (∀ n1 n2', Upd lc (listOf zs.toArray n2) (listOf ws.toArray n2) news n1 → Upd td (dictOf (gapD w.params tt uu lc 0 8) 4) (dictOf [en w.params "room" (tt 0) (.int 8 (uu 0)), en w.params "cells" (tt 1) (.ref lc), en w.params "gap_start" (tt 2) (.int g1 t1), en w.params "gap_end" (tt 3) (.int g2 t2)] 4) n1 n2' → News h₀ L h' n2') → Q v { s with heap := h', toks := tk' }) :
      wpAny (model PR w) (ktrTop dp un gd cn cs L a ccd cl outer) (call (.ref 217) [.ref tx, .int at0 ta, .ref dc]) Q E s := by
  refine gap_core (n4 := n4) (n2 := n2) (tt := tt) (uu := uu) (rest := news.filter fun p => p.1 ≠ td && p.1 ≠ lc) B F X ?_ T hk hI hl hz hlz hat d1 d2 d3 d4 d5 ?_ ?_ hd ?_
  · refine fun p hp => N p ?_
    rcases List.mem_cons.mp hp with rfl | hp
    · exact m1
    rcases List.mem_cons.mp hp with rfl | hp
    · exact m2
    rcases List.mem_cons.mp hp with rfl | hp
    · exact m3
    rcases List.mem_cons.mp hp with rfl | hp
    · exact m4
    exact (List.mem_filter.mp hp).1
  · intro p hp
    have := (List.mem_filter.mp hp).2
    rw [Bool.and_eq_true] at this
    exact of_decide_eq_true this.1
  · intro p hp
    have := (List.mem_filter.mp hp).2
    rw [Bool.and_eq_true] at this
    exact of_decide_eq_true this.2
  · intro v h' tk' ws g1 g2 t1 t2 e0 e1 e2 F' N'
    refine hret v h' tk' ws g1 g2 t1 t2 e0 e1 e2 F' fun n1 n2' U V => ?_
    obtain ⟨pre, post, rfl, rfl, a1, b1⟩ := U.split
    obtain ⟨pre', post', ee, rfl, a2, b2⟩ := V.split
    have key : ∀ p ∈ pre ++ (lc, listOf ws.toArray n2) :: post, p.1 ≠ td → p ∈ (lc, listOf ws.toArray n2) :: ((pre ++ (lc, listOf zs.toArray n2) :: post).filter fun p => p.1 ≠ td && p.1 ≠ lc) := by
      intro p hp hne
      have f : ∀ q : p.1 ≠ lc, (decide (p.1 ≠ td) && decide (p.1 ≠ lc)) = true := fun q => by rw [Bool.and_eq_true]; exact ⟨decide_eq_true hne, decide_eq_true q⟩
      rcases List.mem_append.mp hp with hp | hp
      · exact .tail _ (List.mem_filter.mpr ⟨List.mem_append.mpr (.inl hp), f (a1 p hp)⟩)
      rcases List.mem_cons.mp hp with rfl | hp
      · exact .head _
      exact .tail _ (List.mem_filter.mpr ⟨List.mem_append.mpr (.inr (.tail _ hp)), f (b1 p hp)⟩)
    intro p hp
    rcases List.mem_append.mp hp with hp | hp
    · exact N' p (.tail _ (.tail _ (.tail _ (key p (ee ▸ List.mem_append.mpr (.inl hp)) (a2 p hp)))))
    rcases List.mem_cons.mp hp with rfl | hp
    · exact N' _ (.tail _ (.tail _ (.head _)))
    exact N' p (.tail _ (.tail _ (.tail _ (key p (ee ▸ List.mem_append.mpr (.inr (.tail _ hp))) (b2 p hp)))))
local macro_rules | `(tactic| walk_at "pyIter ref") => `(tactic| (k_here; k_dflt (refine' iter_nil ?k1 ?k2 ?k3 ?k4 ?k5 ?k6 ?_; (case k1 => rfl); (case k5 | k6 => k_asm); (case k2 => k_mem); (case k3 => l_ints); (case k4 => first | assumption | omega); intro h' tk' F' N'); (try k_sweep)))
theorem mk_use {mk md dr : Addr} {orow : Obj} {t9 t4 t5 : Tok} {i1 i2 : Int} {b : Bool}
    (B : Below A₀ base outer h₀) (F : Fr h₀ L s.heap m) (X : (Mine.hd.heap_39 w.params).In h₀) (N0 : News h₀ L s.heap news) (T : Top Mine.hd.view_39 loose mean mg mb h₀) (hk : cs.kind = .function)
    (m1 : (mk, instObj 318 md) ∈ news) (m2 : (md, dictOf (mrkD w.params t9 dr) 1) ∈ news) (m3 : (dr, orow) ∈ news)
    (qa : (dr == sysModules) = false) (qb : Obj.IsDictOf (PySem.strKind PR w) orow []) (qc : PyProof.V.FlatPairs PyData.str [] []) (qd : Obj.IsDictOf (PySem.intKind PR w) orow []) (qe : PyProof.V.FlatPairs PyData.int [] [])
    (hd : dp + 4 < recursionLimit)
    (hret : ∀ v h' tk', Fr h₀ L h' m → News h₀ L h' news → Q v { s with heap := h', toks := tk' }) :
      wpAny (model PR w) (ktrTop dp un gd cn cs L a ccd cl outer) (call (.ref 301) [.ref mk, .int i1 t4, .int i2 t5, .bool b]) Q E s := by
  have N : News h₀ L s.heap ((mk, instObj 318 md) :: (md, dictOf (mrkD w.params t9 dr) 1) :: (dr, orow) :: news) := by
    refine fun p hp => N0 p ?_
    rcases List.mem_cons.mp hp with rfl | hp
    · exact m1
    rcases List.mem_cons.mp hp with rfl | hp
    · exact m2
    rcases List.mem_cons.mp hp with rfl | hp
    · exact m3
    exact hp
  clear N0 m1 m2 m3
  refine wpAny_call ?_
  k_dflt cell_enter
  k_steps
  all_goals rename News h₀ _ _ _ => N9
  all_goals exact hret _ _ _ (by assumption) (fun p hp => N9 p (by repeat (first | exact hp | apply List.Mem.tail)))
end
end GGapIns
section GBufT
theorem fill_BufT : True := by w_top off; trivial
noncomputable def initOf : Option (List Stmt × Scope) := match PySem.Challenge.pw_ok0059_01.main.body[(30 : Nat)]? with
  | some (PySem.Stmt.ClassDef _ _ _ (PySem.Stmt.FunctionDef _ _ b _ _ _ sc _ _ _ :: _) _ _ _ _ _ _ _) => some (b, sc)
  | _ => none
noncomputable def bufTail : List Stmt := ((initOf.map (·.1)).getD []).drop 4
noncomputable def bufScope : Scope := (initOf.map (·.2)).getD default
section
variable {w : World} {A : Around} {E : Value → Shared → Prop} {L f : Addr} {cdv : Value} {qual : Str} {m : Str → Option Value} {s : Shared} {h₀ : Heap} {Q : Flow → Shared → Prop} {bx bd tx mk : Addr} {a0 a1 a2 a3 b0 b1 : Tok} {nm : Str}
theorem tail_core {rest : List (Addr × Obj)} (F : Fr h₀ L s.heap m) (X : (Mine.hd.heap_39 w.params).In h₀)
    (N : News h₀ L s.heap ((bx, instObj 459 bd) :: (bd, dictOf [en w.params "number" a0 (.int 1 b0), en w.params "name" a1 (.str nm b1), en w.params "text" a2 (.ref tx), en w.params "markers" a3 (.ref mk)] 4) :: rest))
    (hs : m (Str.ofString "self") = some (.ref bx)) (ne : @Ne Nat bx bd) (hr : ∀ p ∈ rest, p.1 ≠ bd)
    (hq : ∀ h' tk' lr n3 a4 a5 a6 a7 a8 a9 a10 a11 a12 a13 a14 a15 a16 a17 a18 a19 b4 b5 b6 b10 b11 b12, Fr h₀ L h' m → News h₀ L h' ((lr, listOf #[] n3) :: (bx, instObj 459 bd) :: (bd, dictOf [en w.params "number" a0 (.int 1 b0), en w.params "name" a1 (.str nm b1), en w.params "text" a2 (.ref tx), en w.params "markers" a3 (.ref mk), en w.params "point" a4 (.int 1 b4), en w.params "begv" a5 (.int 1 b5), en w.params "zv" a6 (.int 1 b6), en w.params "mark" a7 .none, en w.params "is_live" a8 (.bool true), en w.params "is_read_only" a9 (.bool false), en w.params "ticks" a10 (.int 1 b10), en w.params "codes_ticks" a11 (.int 1 b11), en w.params "saved_ticks" a12 (.int 1 b12), en w.params "listeners" a13 (.ref lr), en w.params "undo" a14 .none, en w.params "props" a15 .none, en w.params "overlays" a16 .none, en w.params "locals" a17 .none, en w.params "syntax" a18 .none, en w.params "file" a19 .none] 20) :: rest) → (∀ p ∈ rest, p.1 < lr) → bx < lr → bd < lr → Q .next { s with heap := h', toks := tk' }) :
    wpAny (model PR w) A (execs bufTail (envOf qual bufScope L f cdv)) Q E s := by
  dsimp only [bufTail, bufScope, initOf, PySem.Challenge.pw_ok0059_01, List.getElem?_cons_succ, List.getElem?_cons_zero, Option.map_some, Option.getD_some, List.drop_succ_cons, List.drop_zero]
  rw [bind1 hs] at F
  k_steps
  rename News h₀ _ _ _ => N9
  rename Fr h₀ _ _ _ => F9
  rw [← bind1 hs] at F9
  exact hq _ _ _ _ _ _ _ _ _ _ _ _ _ _ _ _ _ _ _ _ _ _ _ _ _ _ F9 N9 (by intro p hp; exact lt_in (o := p.2) (by assumption) (by repeat first | exact hp | apply List.Mem.tail)) (lt_in (by assumption) (.head _)) (lt_in (by assumption) (.tail _ (.head _)))
theorem tail_use {news : List (Addr × Obj)} (F : Fr h₀ L s.heap m) (X : (Mine.hd.heap_39 w.params).In h₀) (N : News h₀ L s.heap news)
    (m1 : (bx, instObj 459 bd) ∈ news) (m2 : (bd, dictOf [en w.params "number" a0 (.int 1 b0), en w.params "name" a1 (.str nm b1), en w.params "text" a2 (.ref tx), en w.params "markers" a3 (.ref mk)] 4) ∈ news)
    (hs : m (Str.ofString "self") = some (.ref bx)) (ne : @Ne Nat bx bd)
    (hq : ∀ h' tk' lr n3 tt uu, Fr h₀ L h' m → (∀ news', Upd bd (dictOf [en w.params "number" a0 (.int 1 b0), en w.params "name" a1 (.str nm b1), en w.params "text" a2 (.ref tx), en w.params "markers" a3 (.ref mk)] 4) (dictOf (bufD w.params tt uu nm tx mk lr 1 1 1 1 1) 20) news news' → News h₀ L h' ((lr, listOf #[] n3) :: news')) → (∀ p ∈ news, p.1 < lr) → Q .next { s with heap := h', toks := tk' }) :
    wpAny (model PR w) A (execs bufTail (envOf qual bufScope L f cdv)) Q E s := by
  refine tail_core (tx := tx) (mk := mk) (a0 := a0) (a1 := a1) (a2 := a2) (a3 := a3) (b0 := b0) (b1 := b1) (nm := nm) (rest := news.filter fun p => p.1 ≠ bd) F X ?_ hs ne ?_ ?_
  · refine fun p hp => N p ?_
    rcases List.mem_cons.mp hp with rfl | hp
    · exact m1
    rcases List.mem_cons.mp hp with rfl | hp
    · exact m2
    exact (List.mem_filter.mp hp).1
  · intro p hp
    exact of_decide_eq_true (List.mem_filter.mp hp).2
  · intro h' tk' lr n3 a4 a5 a6 a7 a8 a9 a10 a11 a12 a13 a14 a15 a16 a17 a18 a19 b4 b5 b6 b10 b11 b12 F' N' l1 l2 l3
    refine hq h' tk' lr n3 (fun i => [a0, a1, a2, a3, a4, a5, a6, a7, a8, a9, a10, a11, a12, a13, a14, a15, a16, a17, a18, a19].getD i 0) (fun i => [b0, b1, b1, b1, b4, b5, b6, b6, b6, b6, b10, b11, b12].getD i 0) F' (fun news' U => ?_) (fun p hp => ?_)
    · obtain ⟨pre, post, rfl, rfl, c1, c2⟩ := U.split
      intro p hp
      rcases List.mem_cons.mp hp with rfl | hp
      · exact N' _ (.head _)
      rcases List.mem_append.mp hp with hp | hp
      · exact N' _ (.tail _ (.tail _ (.tail _ (List.mem_filter.mpr ⟨List.mem_append.mpr (.inl hp), decide_eq_true (c1 p hp)⟩))))
      rcases List.mem_cons.mp hp with rfl | hp
      · exact N' _ (.tail _ (.tail _ (.head _)))
      exact N' _ (.tail _ (.tail _ (.tail _ (List.mem_filter.mpr ⟨List.mem_append.mpr (.inr (.tail _ hp)), decide_eq_true (c2 p hp)⟩))))
    · by_cases e : p.1 = bd
      · rw [e]; exact l3
      · exact l1 p (List.mem_filter.mpr ⟨hp, decide_eq_true e⟩)
end
end GBufT
section GIns
theorem fill_Ins : True := by w_top off; trivial
local macro_rules | `(tactic| k_put) => `(tactic| first | exact put_pt | exact put_bg | exact put_zv | exact put_c1 | exact put_c2)
local macro_rules | `(tactic| walk_at "call ref") => `(tactic| (k_here; (with_reducible show wpAny _ _ (call (Value.ref 217) _) _ _ _); refine stopHere ?_))
local macro_rules | `(tactic| walk_at "call ref") => `(tactic| (k_here; (with_reducible show wpAny _ _ (call (Value.ref 301) _) _ _ _); refine stopHere ?_))
section
variable {w : World} {loose : List Str} {mean : ExcName → Option Value} {mg mb : Str → Option Value} {H0 : Heap} {L fa dk di : Addr} {cd : Value} {m : Str → Option Value} {s : Shared} {E : Value → Shared → Prop} {Q : Flow → Shared → Prop}
  {o : Obj} {n1 : Nat} {ys : List Value} {ds : List Int} {k : Int} {t : Tok} {one text other : Str} {t1 t2 t3 : Tok}


variable {bx bd tx td mk md lr lc dr : Addr} {tt uu tt' uu' : Nat → Tok} {nm : Str} {t9 : Tok} {zs cs : List Value} {zi ci : List Int} {n2 n3 n4 : Nat} {orow : Obj} {i1 i2 : Int} {t4 t5 : Tok} {pt bg zv c1 c2 g1 : Int}

theorem ins_core {dc : Addr} {tc : Tok} {QV : Value → Shared → Prop}
   (B : Below callerA H0 [] H0) (F : Fr H0 L s.heap m) (X : (Mine.hd.heap_39 w.params).In H0) (T : Top Mine.hd.view_39 loose mean mg mb H0)
   (N : News H0 L s.heap [(dc, listOf cs.toArray n4), (lr, listOf #[] n3), (dr, orow), (mk, instObj 318 md), (md, dictOf (mrkD w.params t9 dr) 1), (lc, listOf zs.toArray n2), (tx, instObj 248 td), (td, dictOf (gapD w.params tt uu lc 0 8) 4), (bx, instObj 459 bd), (bd, dictOf (bufD w.params tt' uu' nm tx mk lr 1 1 1 1 1) 20), (dk, listOf #[.ref di, .int k t] n1), (di, LCg.lst ys), (L+1, o)])
   (hI : IntsAre cs ci) (hl : ci.length ≤ 8) (hz : IntsAre zs zi) (hlz : zi.length = 8)
   (h1 : @LT.lt Nat _ di dk) (h2 : @LT.lt Nat _ (L+1) dk) (q1 : @LT.lt Nat _ dk bd) (q2 : @LT.lt Nat _ bd bx) (q3 : @LT.lt Nat _ bx td) (q4 : @LT.lt Nat _ td tx) (q5 : @LT.lt Nat _ tx lc) (q6 : @LT.lt Nat _ lc md) (q7 : @LT.lt Nat _ md mk) (q8 : @LT.lt Nat _ mk dr) (q9 : @LT.lt Nat _ dr lr) (u1 : @Ne Nat dc td) (u2 : @Ne Nat dc bd) (u3 : @Ne Nat dc lc) (u4 : @Ne Nat td dc) (u5 : @Ne Nat bd dc) (u6 : @Ne Nat lc dc) (qa : (dr == sysModules) = false) (qb : Obj.IsDictOf (PySem.strKind PR w) orow []) (qc : PyProof.V.FlatPairs PyData.str [] []) (qd : Obj.IsDictOf (PySem.intKind PR w) orow []) (qe : PyProof.V.FlatPairs PyData.int [] [])
   (hq : ∀ (h' : Heap) (tk' : Nat) (v : Value) (XX : List (Addr × Obj)) (ws : List Value) (pp zz gg hh d1 d2 : Int) (y4 y6 y10 y11 x2 x3 : Tok), Fr H0 L h' m → News H0 L h' XX → (lc, listOf ws.toArray n2) ∈ XX → (tx, instObj 248 td) ∈ XX → (td, dictOf [en w.params "room" (tt 0) (.int 8 (uu 0)), en w.params "cells" (tt 1) (.ref lc), en w.params "gap_start" (tt 2) (.int gg x2), en w.params "gap_end" (tt 3) (.int hh x3)] 4) ∈ XX → (bx, instObj 459 bd) ∈ XX → (bd, dictOf [en w.params "number" (tt' 0) (.int 1 (uu' 0)), en w.params "name" (tt' 1) (.str nm (uu' 1)), en w.params "text" (tt' 2) (.ref tx), en w.params "markers" (tt' 3) (.ref mk), en w.params "point" (tt' 4) (.int pp y4), en w.params "begv" (tt' 5) (.int 1 (uu' 5)), en w.params "zv" (tt' 6) (.int zz y6), en w.params "mark" (tt' 7) .none, en w.params "is_live" (tt' 8) (.bool true), en w.params "is_read_only" (tt' 9) (.bool false), en w.params "ticks" (tt' 10) (.int d1 y10), en w.params "codes_ticks" (tt' 11) (.int d2 y11), en w.params "saved_ticks" (tt' 12) (.int 1 (uu' 12)), en w.params "listeners" (tt' 13) (.ref lr), en w.params "undo" (tt' 14) .none, en w.params "props" (tt' 15) .none, en w.params "overlays" (tt' 16) .none, en w.params "locals" (tt' 17) .none, en w.params "syntax" (tt' 18) .none, en w.params "file" (tt' 19) .none] 20) ∈ XX → (dk, listOf #[.ref di, .int k t] n1) ∈ XX → (di, LCg.lst ys) ∈ XX → (L+1, o) ∈ XX →
      IntsAre ws (ci ++ zi.drop ci.length) → zz = ci.length + 1 → gg = ci.length → hh = 8 → QV v { s with heap := h', toks := tk' })
   : wpAny (model PR w) (lawA L fa cd) (call (.ref 98) [.ref bx, .ref dc]) QV E s := by
  have w1 : @LT.lt Nat _ bd td := Nat.lt_trans q2 q3
  have w2 : @LT.lt Nat _ td lc := Nat.lt_trans q4 q5
  have w3 : @LT.lt Nat _ lc mk := Nat.lt_trans q6 q7
  have w4 : @LT.lt Nat _ dk td := Nat.lt_trans q1 w1
  have w5 : @LT.lt Nat _ bd tx := Nat.lt_trans w1 q4
  have w6 : @LT.lt Nat _ bx lc := Nat.lt_trans q3 w2
  have w7 : @LT.lt Nat _ td md := Nat.lt_trans w2 q6
  have w8 : @LT.lt Nat _ lc dr := Nat.lt_trans w3 q8
  have w9 : @LT.lt Nat _ bd lc := Nat.lt_trans q2 w6
  have w10 : @LT.lt Nat _ td mk := Nat.lt_trans w2 w3
  have w11 : @LT.lt Nat _ lc lr := Nat.lt_trans w8 q9
  have w12 : @LT.lt Nat _ dk lc := Nat.lt_trans q1 w9
  have w13 : @LT.lt Nat _ bd md := Nat.lt_trans w1 w7
  have w14 : @LT.lt Nat _ td dr := Nat.lt_trans w2 w8
  have w15 : @LT.lt Nat _ bd mk := Nat.lt_trans w1 w10
  have w16 : @LT.lt Nat _ td lr := Nat.lt_trans w2 w11
  have w17 : @LT.lt Nat _ bd dr := Nat.lt_trans w1 w14
  have w18 : @LT.lt Nat _ bd lr := Nat.lt_trans w1 w16
  have w19 : @LT.lt Nat _ di bd := Nat.lt_trans h1 q1
  have w20 : @LT.lt Nat _ di td := Nat.lt_trans h1 w4
  have w21 : @LT.lt Nat _ di lc := Nat.lt_trans h1 w12
  have w22 : @LT.lt Nat _ (L+1) bd := Nat.lt_trans h2 q1
  have w23 : @LT.lt Nat _ (L+1) td := Nat.lt_trans h2 w4
  have w24 : @LT.lt Nat _ (L+1) lc := Nat.lt_trans h2 w12
  dsimp only [lawA, lawScope, defAt, PySem.Challenge.pw_ok0059_01, List.getElem?_cons_succ, List.getElem?_cons_zero, Option.map_some, Option.getD_some]
  try k_fold
  k_steps
  · rename News H0 _ _ _ => N9
    rename Fr H0 _ _ _ => F9
    have e0 : ci = [] := List.eq_nil_of_length_eq_zero (by omega)
    refine' hq _ _ _ _ zs _ _ _ _ _ _ _ _ _ _ _ _ F9 N9 ?m1 ?m2 ?m3 ?m4 ?m5 ?m6 ?m7 ?m8 ?i ?z ?g ?e
    case m4 => repeat first | exact List.Mem.head _ | apply List.Mem.tail
    case m5 => repeat first | exact List.Mem.head _ | apply List.Mem.tail
    case m2 => repeat first | exact List.Mem.head _ | apply List.Mem.tail
    case m3 => repeat first | exact List.Mem.head _ | apply List.Mem.tail
    case m1 => repeat first | exact List.Mem.head _ | apply List.Mem.tail
    case m6 => repeat first | exact List.Mem.head _ | apply List.Mem.tail
    case m7 => repeat first | exact List.Mem.head _ | apply List.Mem.tail
    case m8 => repeat first | exact List.Mem.head _ | apply List.Mem.tail
    case i => rw [e0]; exact hz
    case z => rw [e0]; rfl
    case g => rw [e0]; rfl
    case e => rfl
  · unfold Stop
    k_dflt (refine' gap_use ?k1 ?k2 ?k3 ?k4 ?k5 ?k6 ?k7 ?k8 ?k9 ?k10 hI hl hz hlz ?k15 ?k16 ?k17 ?k18 ?k19 ?k20 ?k21 ?_; (case k1 | k2 | k3 | k4 | k5 => k_asm); (case k6 => first | rfl | assumption); (case k7 | k8 | k9 | k10 => k_mem); (case k15 => rfl); (case k16 | k17 | k18 | k19 | k20 => k_ne); (case k21 => ktr_room))
    intro v' h' tk' ws' g1' g2' t1' t2' hI' e1' e2' F' N0'
    have N' := N0' _ _ (by k_dflt k_upd) (by k_dflt k_upd)
    clear N0'
    k_sweep
    k_steps
    unfold Stop
    k_dflt (refine' mk_use ?k1 ?k2 ?k3 ?k4 ?k5 ?k6 ?k7 ?k8 ?k9 qa qb qc qd qe ?k21 ?_; (case k1 | k2 | k3 | k4 | k5 => k_asm); (case k6 => first | rfl | assumption); (case k7 | k8 | k9 => k_mem); (case k21 => ktr_room))
    intro v' h' tk' F' N'
    k_sweep
    k_steps
    rename News H0 _ _ _ => N9
    rename Fr H0 _ _ _ => F9
    refine' hq _ _ _ _ ws' _ _ _ _ _ _ _ _ _ _ _ _ F9 N9 ?m1 ?m2 ?m3 ?m4 ?m5 ?m6 ?m7 ?m8 ?i ?z ?g ?e
    case m4 => repeat first | exact List.Mem.head _ | apply List.Mem.tail
    case m5 => repeat first | exact List.Mem.head _ | apply List.Mem.tail
    case m2 => repeat first | exact List.Mem.head _ | apply List.Mem.tail
    case m3 => repeat first | exact List.Mem.head _ | apply List.Mem.tail
    case m1 => repeat first | exact List.Mem.head _ | apply List.Mem.tail
    case m6 => repeat first | exact List.Mem.head _ | apply List.Mem.tail
    case m7 => repeat first | exact List.Mem.head _ | apply List.Mem.tail
    case m8 => repeat first | exact List.Mem.head _ | apply List.Mem.tail
    case i => exact hI'
    case z => omega
    case g => exact e1'
    case e => exact e2'
end
end GIns
section GSeg5
theorem fill_Seg5 : True := by w_top off; trivial
local macro_rules | `(tactic| walk_at "eval ListComp") => `(tactic| (k_here; k_dflt (refine' ord_comp ?F ?K ?T ?N ?hy ?ha ?hsz ?_; (case F | K | T | N => k_asm); (case hy => ((with_reducible refine' ldLoc ?k1 ?k2 ?_ ?k3 ?k4 ?k5); (case k1 => with_reducible assumption); (case k2 => k_dflt (first | rfl | assumption)); (case k3 | k4 => k_dflt rfl); (case k5 => decide); exact ⟨rfl, rfl⟩)); (case ha => assumption); (case hsz => omega); k_whole); intro D' ys' h' tk' F' N' off' hI'; (try k_sweep)))
section
variable {w : World} {loose : List Str} {mean : ExcName → Option Value} {mg mb : Str → Option Value} {H0 : Heap} {L fa dk di : Addr} {cd : Value} {m : Str → Option Value} {s : Shared} {E : Value → Shared → Prop} {Q : Flow → Shared → Prop}
  {o : Obj} {n1 : Nat} {ys : List Value} {ds : List Int} {k : Int} {t : Tok} {one text other : Str} {t1 t2 t3 : Tok}


theorem news_swap {h₀ h : Heap} {L : Addr} {a b c : Addr × Obj} {r : List (Addr × Obj)} (N : News h₀ L h (a :: b :: c :: r)) : News h₀ L h (c :: b :: r) := by
  intro p hp
  rcases List.mem_cons.mp hp with rfl | hp
  · exact N _ (.tail _ (.tail _ (.head _)))
  rcases List.mem_cons.mp hp with rfl | hp
  · exact N _ (.tail _ (.head _))
  exact N _ (.tail _ (.tail _ (.tail _ hp)))
theorem seg5
   (B : Below callerA H0 [] H0) (F : Fr H0 L s.heap m) (X : (Mine.hd.heap_39 w.params).In H0) (T : Top Mine.hd.view_39 loose mean mg mb H0)
   (N : News H0 L s.heap [(dk, listOf #[.ref di, .int k t] n1), (di, LCg.lst ys), (L+1, o)]) (hI : IntsAre ys ds) (hl : ds.length ≤ 63) (h1 : @LT.lt Nat _ di dk) (h2 : @LT.lt Nat _ (L+1) dk) (ho : Obj.data o = Data.cell (some (Value.ref dk)))
   (hk0 : 0 ≤ k) (hk1 : k < 40)
   (m1 : m (Str.ofString "one") = some (.str one t1)) (m2 : m (Str.ofString "text") = some (.str text t2)) (m3 : m (Str.ofString "other") = some (.str other t3)) (a1 : one.cps.all (· < 128) = true) (a3 : other.cps.all (· < 128) = true) (l1 : one.cps.size ≤ 6) (l3 : other.cps.size ≤ 20)
   (hq : ∀ D1 D2 xs zs h' tk' m', m' (Str.ofString "one") = some (.str one t1) → m' (Str.ofString "text") = some (.str text t2) → m' (Str.ofString "other") = some (.str other t3) → m' (Str.ofString "codes") = some (.ref D1) → m' (Str.ofString "codes_too") = some (.ref D2) → IntsAre xs (codes one) → IntsAre zs (codes other) → Fr H0 L h' m' → News H0 L h' ((D1, LCg.lst xs) :: (D2, LCg.lst zs) :: [(dk, listOf #[.ref di, .int k t] n1), (di, LCg.lst ys), (L+1, o)]) → Q .next { s with heap := h', toks := tk' })
   : wpAny (model PR w) (lawA L fa cd) (exec (lawN 5) (lawE L fa cd)) Q E s := by
  dsimp only [lawE, lawA, lawN, lawBody, lawScope, defAt, PySem.Challenge.pw_ok0059_01, List.getElem?_cons_succ, List.getElem?_cons_zero, Option.map_some, Option.getD_some]
  try k_fold
  k_steps
  rename News _ _ _ _ => N9
  rename Fr _ _ _ _ => F9
  exact hq _ _ _ _ _ _ _ (by exact m1) (by exact m2) (by exact m3) (by rfl) (by rfl) (by assumption) (by assumption) F9 (news_swap N9)
end
theorem fill_Seg8 : True := by w_top off; trivial
local macro_rules | `(tactic| walk_at "call ref") => `(tactic| (k_here; (with_reducible show wpAny _ _ (call (Value.ref 98) _) _ _ _); refine stopHere ?_))
section
variable {w : World} {loose : List Str} {mean : ExcName → Option Value} {mg mb : Str → Option Value} {H0 : Heap} {L fa dk di : Addr} {cd : Value} {m : Str → Option Value} {s : Shared} {E : Value → Shared → Prop} {Q : Flow → Shared → Prop}
  {o : Obj} {n1 : Nat} {ys : List Value} {ds : List Int} {k : Int} {t : Tok} {one text other : Str} {t1 t2 t3 : Tok}


variable {bx bd tx td mk md lr lc dr : Addr} {tt uu tt' uu' : Nat → Tok} {nm : Str} {t9 : Tok} {zs cs : List Value} {zi ci : List Int} {n2 n3 n4 : Nat} {orow : Obj} {i1 i2 : Int} {t4 t5 : Tok} {pt bg zv c1 c2 g1 : Int}

theorem seg8 {tl th : Tok}
   (B : Below callerA H0 [] H0) (F : Fr H0 L s.heap m) (X : (Mine.hd.heap_39 w.params).In H0) (T : Top Mine.hd.view_39 loose mean mg mb H0)
   (N : News H0 L s.heap [(lr, listOf #[] n3), (dr, orow), (mk, instObj 318 md), (md, dictOf (mrkD w.params t9 dr) 1), (lc, listOf zs.toArray n2), (tx, instObj 248 td), (td, dictOf (gapD w.params tt uu lc 0 8) 4), (bx, instObj 459 bd), (bd, dictOf (bufD w.params tt' uu' nm tx mk lr 1 1 1 1 1) 20), (dk, listOf #[.ref di, .int k t] n1), (di, LCg.lst ys), (L+1, o)])
   (m2 : m (Str.ofString "text") = some (.str text t2)) (m3 : m (Str.ofString "own_buffer") = some (.ref bx)) (m4 : m (Str.ofString "low") = some (.int 1 tl)) (m5 : m (Str.ofString "high") = some (.int (text.length + 1) th)) (l2 : text.cps.size ≤ 8) (a1 : text.cps.all (· < 128) = true)
   (hz : IntsAre zs zi) (hlz : zi.length = 8)
   (h1 : @LT.lt Nat _ di dk) (h2 : @LT.lt Nat _ (L+1) dk) (q1 : @LT.lt Nat _ dk bd) (q2 : @LT.lt Nat _ bd bx) (q3 : @LT.lt Nat _ bx td) (q4 : @LT.lt Nat _ td tx) (q5 : @LT.lt Nat _ tx lc) (q6 : @LT.lt Nat _ lc md) (q7 : @LT.lt Nat _ md mk) (q8 : @LT.lt Nat _ mk dr) (q9 : @LT.lt Nat _ dr lr) (qa : (dr == sysModules) = false) (qb : Obj.IsDictOf (PySem.strKind PR w) orow []) (qc : PyProof.V.FlatPairs PyData.str [] []) (qd : Obj.IsDictOf (PySem.intKind PR w) orow []) (qe : PyProof.V.FlatPairs PyData.int [] [])
   (hq : ∀ (h' : Heap) (tk' : Nat) (v : Value) (XX : List (Addr × Obj)) (ws : List Value) (pp zz gg hh d1 d2 : Int) (y4 y6 y10 y11 x2 x3 : Tok), Fr H0 L h' m → News H0 L h' XX → (lc, listOf ws.toArray n2) ∈ XX → (tx, instObj 248 td) ∈ XX → (td, dictOf [en w.params "room" (tt 0) (.int 8 (uu 0)), en w.params "cells" (tt 1) (.ref lc), en w.params "gap_start" (tt 2) (.int gg x2), en w.params "gap_end" (tt 3) (.int hh x3)] 4) ∈ XX → (bx, instObj 459 bd) ∈ XX → (bd, dictOf [en w.params "number" (tt' 0) (.int 1 (uu' 0)), en w.params "name" (tt' 1) (.str nm (uu' 1)), en w.params "text" (tt' 2) (.ref tx), en w.params "markers" (tt' 3) (.ref mk), en w.params "point" (tt' 4) (.int pp y4), en w.params "begv" (tt' 5) (.int 1 (uu' 5)), en w.params "zv" (tt' 6) (.int zz y6), en w.params "mark" (tt' 7) .none, en w.params "is_live" (tt' 8) (.bool true), en w.params "is_read_only" (tt' 9) (.bool false), en w.params "ticks" (tt' 10) (.int d1 y10), en w.params "codes_ticks" (tt' 11) (.int d2 y11), en w.params "saved_ticks" (tt' 12) (.int 1 (uu' 12)), en w.params "listeners" (tt' 13) (.ref lr), en w.params "undo" (tt' 14) .none, en w.params "props" (tt' 15) .none, en w.params "overlays" (tt' 16) .none, en w.params "locals" (tt' 17) .none, en w.params "syntax" (tt' 18) .none, en w.params "file" (tt' 19) .none] 20) ∈ XX → (dk, listOf #[.ref di, .int k t] n1) ∈ XX → (di, LCg.lst ys) ∈ XX → (L+1, o) ∈ XX →
      IntsAre ws (codes text ++ zi.drop (codes text).length) → zz = (codes text).length + 1 → gg = (codes text).length → hh = 8 → Q .next { s with heap := h', toks := tk' })
   : wpAny (model PR w) (lawA L fa cd) (exec (lawN 8) (lawE L fa cd)) Q E s := by
  dsimp only [lawE, lawA, lawN, lawBody, lawScope, defAt, PySem.Challenge.pw_ok0059_01, List.getElem?_cons_succ, List.getElem?_cons_zero, Option.map_some, Option.getD_some]
  try k_fold
  have hlc : (codes text).length = text.length := by simp [codes, Str.length]
  have l2' : text.length ≤ 8 := l2
  have hl8 : (codes text).length ≤ 8 := by omega
  k_steps
  unfold Stop
  rename LCg.Off1 _ _ => off9
  have offd := off9
  simp only [LCg.Off1] at offd
  rename IntsAre _ (codes text) => hc9
  rename News _ _ _ _ => N9
  rename Fr _ _ _ _ => F9
  obtain ⟨-, -, -, -, o5, -, o7, -, o9, -⟩ := offd
  refine ins_core (tc := t) B F9 X T N9 hc9 hl8 hz hlz h1 h2 q1 q2 q3 q4 q5 q6 q7 q8 q9 (Ne.symm o7) (Ne.symm o9) (Ne.symm o5) o7 o9 o5 qa qb qc qd qe ?_
  intro h' tk' v XX ws pp zz gg hh d1 d2 y4 y6 y10 y11 x2 x3
  exact hq h' tk' v XX ws pp zz gg hh d1 d2 y4 y6 y10 y11 x2 x3
end
end GSeg5
section GSeg6
theorem fill_Seg6 : True := by w_top off; trivial
theorem cmp_use {w : World} {loose : List Str} {mean : ExcName → Option Value} {mg mb : Str → Option Value} {L : Addr} {m : Str → Option Value} {s : Shared} {E : Value → Shared → Prop} {dp un : Nat} {gd : Option (List Code)} {cn : Str} {cs : Scope} {a : Addr} {ccd : Value} {cl : List (Str × Addr)} {outer : List Env} {A₀ : Around} {base h₀ : Heap} {news : List (Addr × Obj)} {Q : Value → Shared → Prop} {a1 a2 : Addr} {xs zs : List Value} {as bs : List Int} {n1 n2 : Nat} {f : Bool}
    (B : Below A₀ base outer h₀) (F : Fr h₀ L s.heap m) (X : (Mine.hd.heap_39 w.params).In h₀) (N : News h₀ L s.heap news) (T : Top Mine.hd.view_39 loose mean mg mb h₀) (hk : cs.kind = .function)
    (h1 : (a1, listOf xs.toArray n1) ∈ news) (h2 : (a2, listOf zs.toArray n2) ∈ news) (i1 : IntsAre xs as) (i2 : IntsAre zs bs) (l1 : as.length ≤ 30) (l2 : bs.length ≤ 30)
    (hd : dp + 3 < recursionLimit)
    (hret : ∀ r h' tk' t, r = cmpI f as bs → Fr h₀ L h' m → News h₀ L h' news → Q (.int r t) { s with heap := h', toks := tk' }) :
    wpAny (model PR w) (ktrTop dp un gd cn cs L a ccd cl outer) (call (.ref 161) [.ref a1, .ref a2, .bool f]) Q E s := by
  refine cmp_core (rest := news) (n1 := n1) (n2 := n2) B F X (fun p hp => ?_) T hk i1 i2 l1 l2 hd fun r h' tk' t er F' N' => hret r h' tk' t er F' fun p hp => N' p (.tail _ (.tail _ hp))
  rcases List.mem_cons.mp hp with rfl | hp
  · exact N _ h1
  rcases List.mem_cons.mp hp with rfl | hp
  · exact N _ h2
  exact N _ hp
local macro_rules | `(tactic| walk_at "call ref") => `(tactic| (k_here; (with_reducible show wpAny _ _ (call (Value.ref 161) [Value.ref _, Value.ref _, Value.bool _]) _ _ _); k_dflt (refine' cmp_use ?k1 ?k2 ?k3 ?k4 ?k5 ?k6 ?k7 ?k8 ?k9 ?k10 ?k11 ?k12 ?k13 ?_; (case k1 | k2 | k3 | k4 | k5 => k_asm); (case k6 => first | rfl | assumption); (case k7 | k8 => k_mem); (case k9 | k10 => l_ints); (case k11 | k12 => first | omega | assumption); (case k13 => ktr_room); k_whole); intro r' h' tk' t' er' F' N'; subst er'; (try k_sweep)))
local macro_rules | `(tactic| walk_at "call ref") => `(tactic| (k_here; (with_reducible show wpAny _ _ (call (Value.ref 494) [Value.str _ _, Value.str _ _, Value.bool _]) _ _ _); k_dflt (refine' cmpd_use ?k1 ?k2 ?k3 ?k4 ?k5 ?k6 ?k7 ?k8 ?k9 ?k10 ?k11 ?_; (case k1 | k2 | k3 | k4 | k5 => k_asm); (case k6 => first | rfl | assumption); (case k7 => ktr_room); (case k8 | k9 => omega); (case k10 | k11 => assumption); k_whole); intro r' h' tk' t' er' F' N'; subst er'; (try k_sweep)))
local macro_rules | `(tactic| walk_at "compareOp NotEq ref ref") => `(tactic| (k_here; refine stopHere ?_))
section
variable {w : World} {loose : List Str} {mean : ExcName → Option Value} {mg mb : Str → Option Value} {H0 : Heap} {L fa dk di : Addr} {cd : Value} {m : Str → Option Value} {s : Shared} {E : Value → Shared → Prop} {Q : Flow → Shared → Prop}
  {o : Obj} {n1 : Nat} {ys : List Value} {ds : List Int} {k : Int} {t : Tok} {one text other : Str} {t1 t2 t3 : Tok}


theorem cmpI_anti (f : Bool) (as bs : List Int) : cmpI f bs as = 0 - cmpI f as bs := cmpL_anti _ _ _
theorem cmpI_self (f : Bool) (as : List Int) : cmpI f as as = 0 := cmpL_self _ _
theorem seg6 {D1 D2 : Addr} {xs zs : List Value} {as bs : List Int}
   (B : Below callerA H0 [] H0) (F : Fr H0 L s.heap m) (X : (Mine.hd.heap_39 w.params).In H0) (T : Top Mine.hd.view_39 loose mean mg mb H0)
   (N : News H0 L s.heap [(D1, LCg.lst xs), (D2, LCg.lst zs), (dk, listOf #[.ref di, .int k t] n1), (di, LCg.lst ys), (L+1, o)])
   (m1 : m (Str.ofString "one") = some (.str one t1)) (m2 : m (Str.ofString "text") = some (.str text t2)) (m3 : m (Str.ofString "other") = some (.str other t3)) (m4 : m (Str.ofString "codes") = some (.ref D1)) (m5 : m (Str.ofString "codes_too") = some (.ref D2)) (a1 : AsciiS one) (a3 : AsciiS other) (l1 : one.length ≤ 6) (l3 : other.length ≤ 20)
   (has : as = codes one) (hbs : bs = codes other) (i1 : IntsAre xs as) (i2 : IntsAre zs bs) (la : as.length ≤ 30) (lb : bs.length ≤ 30)
   (hq : ∀ h' tk' m', m' (Str.ofString "text") = some (.str text t2) → Fr H0 L h' m' → News H0 L h' [(dk, listOf #[.ref di, .int k t] n1), (di, LCg.lst ys), (L+1, o)] → Q .next { s with heap := h', toks := tk' })
   : wpAny (model PR w) (lawA L fa cd) (exec (lawN 6) (lawE L fa cd)) Q (fun _ _ => False) s := by
  dsimp only [lawE, lawA, lawN, lawBody, lawScope, defAt, PySem.Challenge.pw_ok0059_01, List.getElem?_cons_succ, List.getElem?_cons_zero, Option.map_some, Option.getD_some]
  try k_fold
  subst has hbs
  have hs1 := cmpI_self false (codes one)
  have hs2 := cmpI_self true (codes one)
  k_steps
  all_goals unfold Stop
  all_goals (k_dflt (refine ne_same (by ke_read) (by ke_read) (by ke_shaped) (by ke_shaped) (by ke_room) (dints2 rfl (cmpI_anti _ _ _)) (by simp [PyData.eqv, PyData.eqvAll]) ?_))
  all_goals k_steps
  all_goals try exact absurd hs1 (by assumption)
  all_goals unfold Stop
  all_goals (k_dflt (refine ne_same (by ke_read) (by ke_read) (by ke_shaped) (by ke_shaped) (by ke_room) (dints2 rfl (cmpI_anti _ _ _)) (by simp [PyData.eqv, PyData.eqvAll]) ?_))
  all_goals k_steps
  all_goals try exact absurd hs2 (by assumption)
  all_goals rename News _ _ _ _ => N9
  all_goals rename Fr _ _ _ _ => F9
  all_goals exact hq _ _ _ (by exact m2) F9 (fun p hp => N9 p (by repeat first | exact hp | apply List.Mem.tail))
end
end GSeg6
section GSeg7
theorem fill_Seg7 : True := by w_top off; trivial
local macro_rules | `(tactic| walk_at "execs cons") => `(tactic| (k_here; k_dflt (refine' tail_use ?k1 ?k2 ?k3 ?k4 ?k5 ?k6 ?k7 ?_; (case k1 | k2 | k3 => k_asm); (case k4 | k5 => k_mem); (case k6 => rfl); (case k7 => k_ne)); intro h' tk' lr' n3' tt9 uu9 F' N0' l1; (have N' := N0' _ (by k_dflt k_upd)); clear N0'; k_sweep))
section
variable {w : World} {loose : List Str} {mean : ExcName → Option Value} {mg mb : Str → Option Value} {H0 : Heap} {L fa dk di : Addr} {cd : Value} {m : Str → Option Value} {s : Shared} {E : Value → Shared → Prop} {Q : Flow → Shared → Prop}
  {o : Obj} {n1 : Nat} {ys : List Value} {ds : List Int} {k : Int} {t : Tok} {one text other : Str} {t1 t2 t3 : Tok}


variable {bx bd tx td mk md lr lc dr : Addr} {tt uu tt' uu' : Nat → Tok} {nm : Str} {t9 : Tok} {zs cs : List Value} {zi ci : List Int} {n2 n3 n4 : Nat} {orow : Obj} {i1 i2 : Int} {t4 t5 : Tok} {pt bg zv c1 c2 g1 : Int}

theorem seg7
   (B : Below callerA H0 [] H0) (F : Fr H0 L s.heap m) (X : (Mine.hd.heap_39 w.params).In H0) (T : Top Mine.hd.view_39 loose mean mg mb H0)
   (N : News H0 L s.heap [(dk, listOf #[.ref di, .int k t] n1), (di, LCg.lst ys), (L+1, o)]) (h1 : @LT.lt Nat _ di dk) (h2 : @LT.lt Nat _ (L+1) dk)
   (m2 : m (Str.ofString "text") = some (.str text t2)) (l2 : text.length ≤ 8)
   (hq : ∀ (h' : Heap) (tk' : Nat) (m' : Str → Option Value) (XX : List (Addr × Obj)) (bx bd tx td mk md lr lc dr : Addr) (orow : Obj) (e0 e1 e2 e3 f0 f2 f3 t9 tz th tl : Tok) (tt' uu' : Nat → Tok) (n2 n3 : Nat), Fr H0 L h' m' → News H0 L h' XX →
      m' (Str.ofString "text") = some (.str text t2) → m' (Str.ofString "own_buffer") = some (.ref bx) → m' (Str.ofString "low") = some (.int 1 tl) → m' (Str.ofString "high") = some (.int (text.length + 1) th) →
      (bx, instObj 459 bd) ∈ XX → (bd, dictOf (bufD w.params tt' uu' (Str.ofString "one") tx mk lr 1 1 1 1 1) 20) ∈ XX → (tx, instObj 248 td) ∈ XX → (td, dictOf [en w.params "room" e0 (.int 8 f0), en w.params "cells" e1 (.ref lc), en w.params "gap_start" e2 (.int 0 f2), en w.params "gap_end" e3 (.int 8 f3)] 4) ∈ XX → (lc, listOf #[.int 0 tz, .int 0 tz, .int 0 tz, .int 0 tz, .int 0 tz, .int 0 tz, .int 0 tz, .int 0 tz] n2) ∈ XX → (mk, instObj 318 md) ∈ XX → (md, dictOf [en w.params "rows" t9 (.ref dr)] 1) ∈ XX → (dr, orow) ∈ XX → (lr, listOf #[] n3) ∈ XX →
      (dk, listOf #[.ref di, .int k t] n1) ∈ XX → (di, LCg.lst ys) ∈ XX → (L+1, o) ∈ XX →
      @LT.lt Nat _ dk bd → @LT.lt Nat _ bd bx → @LT.lt Nat _ bx td → @LT.lt Nat _ td tx → @LT.lt Nat _ tx lc → @LT.lt Nat _ lc md → @LT.lt Nat _ md mk → @LT.lt Nat _ mk dr → @LT.lt Nat _ dr lr →
      (dr == sysModules) = false → Obj.IsDictOf (PySem.strKind PR w) orow [] → PyProof.V.FlatPairs PyData.str [] [] → Obj.IsDictOf (PySem.intKind PR w) orow [] → PyProof.V.FlatPairs PyData.int [] [] → Q .next { s with heap := h', toks := tk' })
   : wpAny (model PR w) (lawA L fa cd) (exec (lawN 7) (lawE L fa cd)) Q E s := by
  dsimp only [lawE, lawA, lawN, lawBody, lawScope, defAt, PySem.Challenge.pw_ok0059_01, List.getElem?_cons_succ, List.getElem?_cons_zero, Option.map_some, Option.getD_some]
  try k_fold
  k_steps
  rename News _ _ _ _ => N9
  rename Fr _ _ _ _ => F9
  refine' hq _ _ _ _ _ _ _ _ _ _ _ _ _ _ _ _ _ _ _ _ _ _ _ _ _ _ _ _ _ F9 N9 ?p1 ?p2 ?p3 ?p4 ?m1 ?m2 ?m3 ?m4 ?m5 ?m6 ?m7 ?m8 ?m9 ?m10 ?m11 ?m12 ?q1 ?q2 ?q3 ?q4 ?q5 ?q6 ?q7 ?q8 ?q9 ?r1 ?r2 ?r3 ?r4 ?r5
  case m1 => repeat first | exact List.Mem.head _ | apply List.Mem.tail
  case m2 => repeat first | exact List.Mem.head _ | apply List.Mem.tail
  case m3 => repeat first | exact List.Mem.head _ | apply List.Mem.tail
  case m4 => repeat first | exact List.Mem.head _ | apply List.Mem.tail
  case m5 => repeat first | exact List.Mem.head _ | apply List.Mem.tail
  case m6 => repeat first | exact List.Mem.head _ | apply List.Mem.tail
  case m7 => repeat first | exact List.Mem.head _ | apply List.Mem.tail
  case m8 => repeat first | exact List.Mem.head _ | apply List.Mem.tail
  case m9 => repeat first | exact List.Mem.head _ | apply List.Mem.tail
  case m10 => repeat first | exact List.Mem.head _ | apply List.Mem.tail
  case m11 => repeat first | exact List.Mem.head _ | apply List.Mem.tail
  case m12 => repeat first | exact List.Mem.head _ | apply List.Mem.tail
  case p1 => exact m2
  case p2 => rfl
  case p3 => rfl
  case p4 => rfl
  all_goals first | assumption | (refine' lt_in ?h ?m; (case h => assumption); (case m => k_mem))
end
end GSeg7
section GSeg911
local macro_rules | `(tactic| walk_at "nothing") => `(tactic| skip)
theorem fill_Seg911 : True := by w_top off; trivial
local macro_rules | `(tactic| walk_at "call ref") => `(tactic| (k_here; (with_reducible show wpAny _ _ (call (Value.ref 482) _) _ _ _); refine stopHere ?_))
section
variable {w : World} {loose : List Str} {mean : ExcName → Option Value} {mg mb : Str → Option Value} {H0 : Heap} {L fa dk di : Addr} {cd : Value} {m : Str → Option Value} {s : Shared} {E : Value → Shared → Prop} {Q : Flow → Shared → Prop}
  {o : Obj} {n1 : Nat} {ys : List Value} {ds : List Int} {k : Int} {t : Tok} {one text other : Str} {t1 t2 t3 : Tok}


variable {bx bd tx td mk md lr lc dr : Addr} {tt uu tt' uu' : Nat → Tok} {nm : Str} {t9 : Tok} {zs cs : List Value} {zi ci : List Int} {n2 n3 n4 : Nat} {orow : Obj} {i1 i2 : Int} {t4 t5 : Tok} {pt bg zv c1 c2 g1 : Int}

theorem seg9 {ta tb : Tok}
   (B : Below callerA H0 [] H0) (F : Fr H0 L s.heap m) (X : (Mine.hd.heap_39 w.params).In H0) (T : Top Mine.hd.view_39 loose mean mg mb H0)
   (N : News H0 L s.heap (ledB w.params tt uu tt' uu' nm lc tx td bx bd mk lr zs n2 g1 pt bg zv c1 c2 [(dk, listOf #[.ref di, .int k t] n1), (di, LCg.lst ys), (L+1, o)]))
   (m2 : m (Str.ofString "text") = some (.str text t2)) (m3 : m (Str.ofString "own_buffer") = some (.ref bx)) (m4 : m (Str.ofString "low") = some (.int bg ta)) (m5 : m (Str.ofString "high") = some (.int zv tb)) (l2 : text.length ≤ 8) (a1 : AsciiS text)
   (hg : g1 = text.length) (hb1 : 1 ≤ bg) (hb2 : bg ≤ zv) (hb3 : zv ≤ text.length + 1) (hI : IntsAre zs zi) (hz : zi.length = 8) (hzi : ∀ j, j < text.length → zi.getD j 0 = Int.ofNat (text.cps.toList.getD j 0))
   (h1 : @LT.lt Nat _ di dk) (h2 : @LT.lt Nat _ (L+1) dk) (q1 : @LT.lt Nat _ dk bd) (q2 : @LT.lt Nat _ bd bx) (q3 : @LT.lt Nat _ bx td) (q4 : @LT.lt Nat _ td tx) (q5 : @LT.lt Nat _ tx lc)
   (hq : ∀ h' tk' u p, Fr H0 L h' m → News H0 L h' (ledB w.params tt uu tt' u nm lc tx td bx bd mk lr zs n2 g1 p bg zv c1 c2 [(dk, listOf #[.ref di, .int k t] n1), (di, LCg.lst ys), (L+1, o)]) → Q .next { s with heap := h', toks := tk' })
   : wpAny (model PR w) (lawA L fa cd) (exec (lawN 9) (lawE L fa cd)) Q E s := by
  have hrest : ∀ p ∈ [(dk, listOf #[.ref di, .int k t] n1), (di, LCg.lst ys), (L+1, o)], p.1 ≠ bd := by
    intro p hp
    simp only [List.mem_cons, List.not_mem_nil, or_false] at hp
    rcases hp with rfl | rfl | rfl
    · exact Nat.ne_of_lt q1
    · exact Nat.ne_of_lt (Nat.lt_trans h1 q1)
    · exact Nat.ne_of_lt (Nat.lt_trans h2 q1)
  dsimp only [lawE, lawA, lawN, lawBody, lawScope, defAt, PySem.Challenge.pw_ok0059_01, List.getElem?_cons_succ, List.getElem?_cons_zero, Option.map_some, Option.getD_some]
  try k_fold
  k_steps
  unfold Stop
  rename News _ _ _ _ => N9
  rename Fr _ _ _ _ => F9
  refine state_core B F9 X N9 T rfl (by ktr_room) (by decide) l2 a1 hg hb1 hb2 hb3 hI hz hzi q2 q3 q4 q5 hrest ?_
  intro h' tk' _ u p F' N'
  k_steps
  exact hq _ _ u p F' N'

theorem seg11 {ta tb : Tok}
   (B : Below callerA H0 [] H0) (F : Fr H0 L s.heap m) (X : (Mine.hd.heap_39 w.params).In H0) (T : Top Mine.hd.view_39 loose mean mg mb H0)
   (N : News H0 L s.heap (ledB w.params tt uu tt' uu' nm lc tx td bx bd mk lr zs n2 g1 pt bg zv c1 c2 [(dk, listOf #[.ref di, .int k t] n1), (di, LCg.lst ys), (L+1, o)]))
   (m2 : m (Str.ofString "text") = some (.str text t2)) (m3 : m (Str.ofString "own_buffer") = some (.ref bx)) (m4 : m (Str.ofString "low") = some (.int bg ta)) (m5 : m (Str.ofString "high") = some (.int zv tb)) (l2 : text.length ≤ 8) (a1 : AsciiS text)
   (hg : g1 = text.length) (hb1 : 1 ≤ bg) (hb2 : bg ≤ zv) (hb3 : zv ≤ text.length + 1) (hI : IntsAre zs zi) (hz : zi.length = 8) (hzi : ∀ j, j < text.length → zi.getD j 0 = Int.ofNat (text.cps.toList.getD j 0))
   (h1 : @LT.lt Nat _ di dk) (h2 : @LT.lt Nat _ (L+1) dk) (q1 : @LT.lt Nat _ dk bd) (q2 : @LT.lt Nat _ bd bx) (q3 : @LT.lt Nat _ bx td) (q4 : @LT.lt Nat _ td tx) (q5 : @LT.lt Nat _ tx lc)
   (hq : ∀ h' tk' u p, Fr H0 L h' m → News H0 L h' (ledB w.params tt uu tt' u nm lc tx td bx bd mk lr zs n2 g1 p bg zv c1 c2 [(dk, listOf #[.ref di, .int k t] n1), (di, LCg.lst ys), (L+1, o)]) → Q .next { s with heap := h', toks := tk' })
   : wpAny (model PR w) (lawA L fa cd) (exec (lawN 11) (lawE L fa cd)) Q E s := by
  have hrest : ∀ p ∈ [(dk, listOf #[.ref di, .int k t] n1), (di, LCg.lst ys), (L+1, o)], p.1 ≠ bd := by
    intro p hp
    simp only [List.mem_cons, List.not_mem_nil, or_false] at hp
    rcases hp with rfl | rfl | rfl
    · exact Nat.ne_of_lt q1
    · exact Nat.ne_of_lt (Nat.lt_trans h1 q1)
    · exact Nat.ne_of_lt (Nat.lt_trans h2 q1)
  dsimp only [lawE, lawA, lawN, lawBody, lawScope, defAt, PySem.Challenge.pw_ok0059_01, List.getElem?_cons_succ, List.getElem?_cons_zero, Option.map_some, Option.getD_some]
  try k_fold
  k_steps
  unfold Stop
  rename News _ _ _ _ => N9
  rename Fr _ _ _ _ => F9
  refine state_core B F9 X N9 T rfl (by ktr_room) (by decide) l2 a1 hg hb1 hb2 hb3 hI hz hzi q2 q3 q4 q5 hrest ?_
  intro h' tk' _ u p F' N'
  k_steps
  exact hq _ _ u p F' N'
end
end GSeg911
section GSeg10
theorem fill_Seg10 : True := by w_top off; trivial
local macro_rules | `(tactic| k_put) => `(tactic| first | exact put_pt | exact put_bg | exact put_zv | exact put_c1 | exact put_c2)
section
variable {w : World} {loose : List Str} {mean : ExcName → Option Value} {mg mb : Str → Option Value} {H0 : Heap} {L fa dk di : Addr} {cd : Value} {m : Str → Option Value} {s : Shared} {E : Value → Shared → Prop} {Q : Flow → Shared → Prop}
  {o : Obj} {n1 : Nat} {ys : List Value} {ds : List Int} {k : Int} {t : Tok} {one text other : Str} {t1 t2 t3 : Tok}


variable {bx bd tx td mk md lr lc dr : Addr} {tt uu tt' uu' : Nat → Tok} {nm : Str} {t9 : Tok} {zs cs : List Value} {zi ci : List Int} {n2 n3 n4 : Nat} {orow : Obj} {i1 i2 : Int} {t4 t5 : Tok} {pt bg zv c1 c2 g1 : Int}

theorem seg10 {ta tb : Tok}
   (B : Below callerA H0 [] H0) (F : Fr H0 L s.heap m) (X : (Mine.hd.heap_39 w.params).In H0) (T : Top Mine.hd.view_39 loose mean mg mb H0)
   (N : News H0 L s.heap (ledB w.params tt uu tt' uu' nm lc tx td bx bd mk lr zs n2 g1 pt 1 zv c1 c2 [(dk, listOf #[.ref di, .int k t] n1), (di, LCg.lst ys), (L+1, o)]))
   (m2 : m (Str.ofString "text") = some (.str text t2)) (m3 : m (Str.ofString "own_buffer") = some (.ref bx)) (m4 : m (Str.ofString "low") = some (.int 1 ta)) (m5 : m (Str.ofString "high") = some (.int zv tb)) (l2 : text.length ≤ 8)
   (hg : g1 = text.length) (hb2 : zv = text.length + 1) (hI : IntsAre zs zi) (hz : zi.length = 8) (hd : IntsAre ys ds) (hl : ds.length ≤ 63) (ho : Obj.data o = Data.cell (some (Value.ref dk))) (hk0 : 0 ≤ k) (hk1 : k < 40)
   (h1 : @LT.lt Nat _ di dk) (h2 : @LT.lt Nat _ (L+1) dk) (q1 : @LT.lt Nat _ dk bd) (q2 : @LT.lt Nat _ bd bx) (q3 : @LT.lt Nat _ bx td) (q4 : @LT.lt Nat _ td tx) (q5 : @LT.lt Nat _ tx lc)
   (hq : ∀ (h' : Heap) (tk' : Nat) (m' : Str → Option Value) (XX : List (Addr × Obj)) (pp bb zz b' z' k' : Int) (y4 y5 y6 ta' tb' t2' : Tok), Fr H0 L h' m' → News H0 L h' XX → m' (Str.ofString "text") = some (.str text t2) → m' (Str.ofString "own_buffer") = some (.ref bx) → m' (Str.ofString "low") = some (.int b' ta') → m' (Str.ofString "high") = some (.int z' tb') →
      (lc, listOf zs.toArray n2) ∈ XX → (tx, instObj 248 td) ∈ XX → (td, dictOf (gapD w.params tt uu lc g1 8) 4) ∈ XX → (bx, instObj 459 bd) ∈ XX → (bd, dictOf [en w.params "number" (tt' 0) (.int 1 (uu' 0)), en w.params "name" (tt' 1) (.str nm (uu' 1)), en w.params "text" (tt' 2) (.ref tx), en w.params "markers" (tt' 3) (.ref mk), en w.params "point" (tt' 4) (.int pp y4), en w.params "begv" (tt' 5) (.int bb y5), en w.params "zv" (tt' 6) (.int zz y6), en w.params "mark" (tt' 7) .none, en w.params "is_live" (tt' 8) (.bool true), en w.params "is_read_only" (tt' 9) (.bool false), en w.params "ticks" (tt' 10) (.int c1 (uu' 10)), en w.params "codes_ticks" (tt' 11) (.int c2 (uu' 11)), en w.params "saved_ticks" (tt' 12) (.int 1 (uu' 12)), en w.params "listeners" (tt' 13) (.ref lr), en w.params "undo" (tt' 14) .none, en w.params "props" (tt' 15) .none, en w.params "overlays" (tt' 16) .none, en w.params "locals" (tt' 17) .none, en w.params "syntax" (tt' 18) .none, en w.params "file" (tt' 19) .none] 20) ∈ XX → (dk, listOf #[.ref di, .int k' t2'] n1) ∈ XX → (di, LCg.lst ys) ∈ XX → (L+1, o) ∈ XX →
      bb = b' → zz = z' → 1 ≤ b' → b' ≤ z' → z' ≤ text.length + 1 → k ≤ k' → k' ≤ k + 3 → Q .next { s with heap := h', toks := tk' })
   : wpAny (model PR w) (lawA L fa cd) (exec (lawN 10) (lawE L fa cd)) Q E s := by
  have w1 : @LT.lt Nat _ dk bx := Nat.lt_trans q1 q2
  have w2 : @LT.lt Nat _ bd td := Nat.lt_trans q2 q3
  have w3 : @LT.lt Nat _ dk td := Nat.lt_trans q1 w2
  have w4 : @LT.lt Nat _ bd tx := Nat.lt_trans w2 q4
  have w5 : @LT.lt Nat _ dk tx := Nat.lt_trans q1 w4
  have w6 : @LT.lt Nat _ bd lc := Nat.lt_trans w4 q5
  have w7 : @LT.lt Nat _ dk lc := Nat.lt_trans q1 w6
  have w9 : @LT.lt Nat _ di bd := Nat.lt_trans h1 q1
  have w11 : @LT.lt Nat _ (L+1) bd := Nat.lt_trans h2 q1
  dsimp only [ledB] at N
  dsimp only [lawE, lawA, lawN, lawBody, lawScope, defAt, PySem.Challenge.pw_ok0059_01, List.getElem?_cons_succ, List.getElem?_cons_zero, Option.map_some, Option.getD_some]
  try k_fold
  k_steps
  all_goals rename News H0 _ _ _ => N9
  all_goals rename Fr H0 _ _ _ => F9
  all_goals refine hq _ _ _ _ _ _ _ _ _ _ _ _ _ _ _ _ F9 N9 (by exact m2) (by exact m3) (by first | rfl | exact m4) (by first | rfl | exact m5) (by repeat first | exact List.Mem.head _ | apply List.Mem.tail) (by repeat first | exact List.Mem.head _ | apply List.Mem.tail) (by repeat first | exact List.Mem.head _ | apply List.Mem.tail) (by repeat first | exact List.Mem.head _ | apply List.Mem.tail) (by repeat first | exact List.Mem.head _ | apply List.Mem.tail) (by repeat first | exact List.Mem.head _ | apply List.Mem.tail) (by repeat first | exact List.Mem.head _ | apply List.Mem.tail) (by repeat first | exact List.Mem.head _ | apply List.Mem.tail) ?_ ?_ ?_ ?_ ?_ ?_ ?_
  all_goals omega
end
section
variable {P : Params} {tt uu tt' uu' : Nat → Tok} {nm : Str} {lc tx td bx bd mk lr dk di L : Addr} {XX : List (Addr × Obj)} {pp bb zz d1 d2 gg : Int} {y4 y5 y6 y10 y11 x2 x3 : Tok}
theorem pack_buf (h : (bd, dictOf [en P "number" (tt' 0) (.int 1 (uu' 0)), en P "name" (tt' 1) (.str nm (uu' 1)), en P "text" (tt' 2) (.ref tx), en P "markers" (tt' 3) (.ref mk), en P "point" (tt' 4) (.int pp y4), en P "begv" (tt' 5) (.int bb y5), en P "zv" (tt' 6) (.int zz y6), en P "mark" (tt' 7) .none, en P "is_live" (tt' 8) (.bool true), en P "is_read_only" (tt' 9) (.bool false), en P "ticks" (tt' 10) (.int d1 y10), en P "codes_ticks" (tt' 11) (.int d2 y11), en P "saved_ticks" (tt' 12) (.int 1 (uu' 12)), en P "listeners" (tt' 13) (.ref lr), en P "undo" (tt' 14) .none, en P "props" (tt' 15) .none, en P "overlays" (tt' 16) .none, en P "locals" (tt' 17) .none, en P "syntax" (tt' 18) .none, en P "file" (tt' 19) .none] 20) ∈ XX) :
    (bd, dictOf (bufD P tt' (fun i => if i = 4 then y4 else if i = 5 then y5 else if i = 6 then y6 else if i = 10 then y10 else if i = 11 then y11 else uu' i) nm tx mk lr pp bb zz d1 d2) 20) ∈ XX := h
theorem pack_gap (h : (td, dictOf [en P "room" (tt 0) (.int 8 (uu 0)), en P "cells" (tt 1) (.ref lc), en P "gap_start" (tt 2) (.int gg x2), en P "gap_end" (tt 3) (.int 8 x3)] 4) ∈ XX) :
    (td, dictOf (gapD P tt (fun i => if i = 2 then x2 else if i = 3 then x3 else uu i) lc gg 8) 4) ∈ XX := h
theorem pack_gap7 {e0 e1 e2 e3 f0 f2 f3 : Tok} (h : (td, dictOf [en P "room" e0 (.int 8 f0), en P "cells" e1 (.ref lc), en P "gap_start" e2 (.int 0 f2), en P "gap_end" e3 (.int 8 f3)] 4) ∈ XX) :
    (td, dictOf (gapD P (fun i => [e0, e1, e2, e3].getD i 0) (fun i => [f0, f0, f2, f3].getD i 0) lc 0 8) 4) ∈ XX := h
theorem led_deck {zs : List Value} {n2 : Nat} {g1 pt bg zv c1 c2 : Int} {h₀ h : Heap} {o1 o2 o3 : Addr × Obj} (N : News h₀ L h XX)
    (hm1 : (lc, listOf zs.toArray n2) ∈ XX) (hm2 : (tx, instObj 248 td) ∈ XX) (hm3 : (td, dictOf (gapD P tt uu lc g1 8) 4) ∈ XX) (hm4 : (bx, instObj 459 bd) ∈ XX) (hm5 : (bd, dictOf (bufD P tt' uu' nm tx mk lr pt bg zv c1 c2) 20) ∈ XX) (k1 : o1 ∈ XX) (k2 : o2 ∈ XX) (k3 : o3 ∈ XX) :
    News h₀ L h (ledB P tt uu tt' uu' nm lc tx td bx bd mk lr zs n2 g1 pt bg zv c1 c2 [o1, o2, o3]) := by
  have N' : News h₀ L h [o1, o2, o3] := by
    intro p hp
    simp only [List.mem_cons, List.not_mem_nil, or_false] at hp
    rcases hp with rfl | rfl | rfl
    · exact N _ k1
    · exact N _ k2
    · exact N _ k3
  intro p hp
  rcases List.mem_cons.mp hp with rfl | hp
  · exact N _ hm1
  rcases List.mem_cons.mp hp with rfl | hp
  · exact N _ hm2
  rcases List.mem_cons.mp hp with rfl | hp
  · exact N _ hm3
  rcases List.mem_cons.mp hp with rfl | hp
  · exact N _ hm4
  rcases List.mem_cons.mp hp with rfl | hp
  · exact N _ hm5
  exact N' _ hp
end
end GSeg10
section GSeg12
theorem fill_Seg12 : True := by w_top off; trivial
structure J12 (P : Params) (tt uu tt' uu' : Nat → Tok) (nm : Str) (lc tx td bx bd mk lr dk di L : Addr) (zs ys : List Value) (n1 n2 : Nat) (g1 pt bg zv c1 c2 k0 : Int) (o : Obj) (X : Str) (ta tb tc : Tok) (i : Nat) (m : Str → Option Value) (nx : List (Addr × Obj)) : Prop where
  nx : ∃ (k : Int) (t : Tok), k0 ≤ k ∧ k ≤ k0 + 2 * i ∧ nx = ledB P tt uu tt' uu' nm lc tx td bx bd mk lr zs n2 g1 pt bg zv c1 c2 [(dk, listOf #[.ref di, .int k t] n1), (di, LCg.lst ys), (L+1, o)]
  m1 : m (Str.ofString "own_buffer") = some (.ref bx)
  m2 : m (Str.ofString "low") = some (.int bg ta)
  m3 : m (Str.ofString "high") = some (.int zv tb)
  m4 : m (Str.ofString "text") = some (.str X tc)
theorem it12 {prog : Program} {w : World} {A : Around} {E : Value → Shared → Prop} {s : Shared} {env : Env} {h₀ : Heap} {x : Str} {body : List Stmt} {Q : Flow → Shared → Prop} {r : Addr} {t₀ u₀ v₀ : Tok} {m₀ : Str → Option Value} {P : Params} {tt uu tt' uu' : Nat → Tok} {nm : Str} {lc tx td bx bd mk lr dk di L : Addr} {zs ys : List Value} {n1 n2 : Nat} {g1 pt bg zv c1 c2 k0 : Int} {o : Obj} {X : Str} {ta tb tc t : Tok}
    (hh : A.handled = none) (hr : IsRange s.heap r 0 3 1 t₀ u₀ v₀) (F : Fr h₀ env.locals s.heap m₀) (N : News h₀ env.locals s.heap (ledB P tt uu tt' uu' nm lc tx td bx bd mk lr zs n2 g1 pt bg zv c1 c2 [(dk, listOf #[.ref di, .int k0 t] n1), (di, LCg.lst ys), (L+1, o)]))
    (m1 : m₀ (Str.ofString "own_buffer") = some (.ref bx)) (m2 : m₀ (Str.ofString "low") = some (.int bg ta)) (m3 : m₀ (Str.ofString "high") = some (.int zv tb)) (m4 : m₀ (Str.ofString "text") = some (.str X tc))
    (turn : ∀ (i : Nat) (k : Int) t' k' (m₁ : Str → Option Value) t h tk own, i < 3 → k0 ≤ k → k ≤ k0 + 2 * i → TbOff own (ledB P tt uu tt' uu' nm lc tx td bx bd mk lr zs n2 g1 pt bg zv c1 c2 [(dk, listOf #[.ref di, .int k t] n1), (di, LCg.lst ys), (L+1, o)]) → Fr h₀ env.locals h (fun y => if y = x then some (.int k' t') else if y = Str.ofString "own_buffer" then some (.ref bx) else if y = Str.ofString "low" then some (.int bg ta) else if y = Str.ofString "high" then some (.int zv tb) else if y = Str.ofString "text" then some (.str X tc) else m₁ y) →
      News h₀ env.locals h (ledB P tt uu tt' uu' nm lc tx td bx bd mk lr zs n2 g1 pt bg zv c1 c2 ([(dk, listOf #[.ref di, .int k t] n1), (di, LCg.lst ys), (L+1, o)] ++ own)) →
      wpAny (model prog w) A (execs body env) (TbPost h₀ env.locals (J12 P tt uu tt' uu' nm lc tx td bx bd mk lr dk di L zs ys n1 n2 g1 pt bg zv c1 c2 k0 o X ta tb tc (i + 1)) own { s with heap := h, toks := tk } Q) E { s with heap := h, toks := tk })
    (done : ∀ (m₁ : Str → Option Value) nx h tk, Fr h₀ env.locals h m₁ → News h₀ env.locals h nx → Q .next { s with heap := h, toks := tk }) :
    wpAny (model prog w) A (pyIter (.ref r)) (fun it s₂ => LoopAtV prog w A h₀ env x body Q E it s₂) E s := by
  refine tbr_invG (n := 3) (J12 P tt uu tt' uu' nm lc tx td bx bd mk lr dk di L zs ys n1 n2 g1 pt bg zv c1 c2 k0 o X ta tb tc) hh hr (by decide) (by decide) F N ⟨⟨k0, t, by omega, by omega, rfl⟩, m1, m2, m3, m4⟩ ?_ ?_
  · rintro i k' t' m₁ nx h tk own hk hoff ⟨⟨k, t, a1, a2, rfl⟩, e1, e2, e3, e4⟩ F₁ N₁
    have hi : i < 3 := by
      have := (List.getElem?_eq_some_iff.mp hk).1
      simpa [rangeKs] using this
    refine turn i k t' k' m₁ t h tk own hi a1 a2 hoff ?_ N₁
    rw [bind4 e1 e2 e3 e4] at F₁
    exact F₁
  · rintro m₁ nx h tk _ F₁ N₁
    exact done m₁ nx h tk F₁ N₁
theorem told_eq {X Y : Str} {lo hi a b : Int} (hY : Y.cps.toList = (X.cps.toList.drop (lo - 1).toNat).take (hi - lo).toNat) (h1 : 1 ≤ lo) (h2 : lo ≤ hi) (h3 : hi ≤ X.length + 1) (ea : a = lo - 1) (eb : b = hi - 1) : Y = Txt.slice X (some a) (some b) := by
  obtain ⟨a', rfl⟩ := Int.eq_ofNat_of_zero_le (show 0 ≤ a by omega)
  obtain ⟨b', rfl⟩ := Int.eq_ofNat_of_zero_le (show 0 ≤ b by omega)
  apply str_eq
  rw [slice_cps X (show a' ≤ b' by omega) (by omega), hY, show (lo - 1).toNat = a' by omega, show (hi - lo).toNat = b' - a' by omega]
theorem end12 {P : Params} {tt uu tt' uu' : Nat → Tok} {nm : Str} {lc tx td bx bd mk lr dk di L : Addr} {zs ys : List Value} {n1 n2 : Nat} {g1 pt bg zv c1 c2 k0 k9 k' : Int} {o : Obj} {X : Str} {ta tb tc t9 t' : Tok} {i : Nat} {own : List (Addr × Obj)} {s₁ : Shared} {tk : Nat} {h₀ h' : Heap} {L₀ : Addr} {m' : Str → Option Value}
    (F : Fr h₀ L₀ h' m') (N : News h₀ L₀ h' (ledB P tt uu tt' uu' nm lc tx td bx bd mk lr zs n2 g1 pt bg zv c1 c2 ((dk, listOf #[.ref di, .int k' t'] n1) :: (di, LCg.lst ys) :: (L+1, o) :: own)))
    (hoff : TbOff own (ledB P tt uu tt' uu' nm lc tx td bx bd mk lr zs n2 g1 pt bg zv c1 c2 [(dk, listOf #[.ref di, .int k9 t9] n1), (di, LCg.lst ys), (L+1, o)]))
    (hk : k0 ≤ k') (hk2 : k' ≤ k0 + 2 * i)
    (m1 : m' (Str.ofString "own_buffer") = some (.ref bx)) (m2 : m' (Str.ofString "low") = some (.int bg ta)) (m3 : m' (Str.ofString "high") = some (.int zv tb)) (m4 : m' (Str.ofString "text") = some (.str X tc)) :
    TbEnd h₀ L₀ (J12 P tt uu tt' uu' nm lc tx td bx bd mk lr dk di L zs ys n1 n2 g1 pt bg zv c1 c2 k0 o X ta tb tc i) own s₁ { s₁ with heap := h', toks := tk } := by
  refine ⟨h', tk, m', _, ledB P tt uu tt' uu' nm lc tx td bx bd mk lr zs n2 g1 pt bg zv c1 c2 [(dk, listOf #[.ref di, .int k' t'] n1), (di, LCg.lst ys), (L+1, o)], rfl, F, N, ?_, ?_, ?_, ⟨⟨k', t', hk, hk2, rfl⟩, m1, m2, m3, m4⟩⟩
  · exact List.forall_mem_cons.mpr ⟨.head _, List.forall_mem_cons.mpr ⟨.tail _ (.head _), List.forall_mem_cons.mpr ⟨.tail _ (.tail _ (.head _)), List.forall_mem_cons.mpr ⟨.tail _ (.tail _ (.tail _ (.head _))), List.forall_mem_cons.mpr ⟨.tail _ (.tail _ (.tail _ (.tail _ (.head _)))), List.forall_mem_cons.mpr ⟨.tail _ (.tail _ (.tail _ (.tail _ (.tail _ (.head _))))), List.forall_mem_cons.mpr ⟨.tail _ (.tail _ (.tail _ (.tail _ (.tail _ (.tail _ (.head _)))))), List.forall_mem_cons.mpr ⟨.tail _ (.tail _ (.tail _ (.tail _ (.tail _ (.tail _ (.tail _ (.head _))))))), fun _ h => nomatch h⟩⟩⟩⟩⟩⟩⟩⟩
  · exact fun p hp => .tail _ (.tail _ (.tail _ (.tail _ (.tail _ (.tail _ (.tail _ (.tail _ hp)))))))
  · intro p hp
    have a := hoff p hp
    refine List.forall_mem_cons.mpr ⟨a _ (.head _), List.forall_mem_cons.mpr ⟨a _ (.tail _ (.head _)), List.forall_mem_cons.mpr ⟨a _ (.tail _ (.tail _ (.head _))), List.forall_mem_cons.mpr ⟨a _ (.tail _ (.tail _ (.tail _ (.head _)))), List.forall_mem_cons.mpr ⟨a _ (.tail _ (.tail _ (.tail _ (.tail _ (.head _))))), List.forall_mem_cons.mpr ⟨?_, fun q hq => a q (.tail _ (.tail _ (.tail _ (.tail _ (.tail _ (.tail _ hq))))))⟩⟩⟩⟩⟩⟩
    exact a (dk, listOf #[.ref di, .int k9 t9] n1) (.tail _ (.tail _ (.tail _ (.tail _ (.tail _ (.head _))))))
theorem told_any {w : World} {loose : List Str} {mean : ExcName → Option Value} {mg mb : Str → Option Value} {L : Addr} {m : Str → Option Value} {s : Shared} {E : Value → Shared → Prop} {bx bd tx td mk lr lc : Addr} {tt uu tt' uu' : Nat → Tok} {nm : Str} {zs : List Value} {zi : List Int} {n2 : Nat} {i1 i2 : Int} {t4 t5 : Tok} {pt bg zv c1 c2 g1 : Int}
    {dp un : Nat} {gd : Option (List Code)} {cn : Str} {cs : Scope} {a : Addr} {ccd : Value} {cl : List (Str × Addr)} {outer : List Env} {A₀ : Around} {h₀ : Heap} {rest : List (Addr × Obj)} {Q : Value → Shared → Prop} {X : Str}
    (B : Below A₀ h₀ outer h₀) (F : Fr h₀ L s.heap m) (X' : (Mine.hd.heap_39 w.params).In h₀) (N : News h₀ L s.heap (ledB w.params tt uu tt' uu' nm lc tx td bx bd mk lr zs n2 g1 pt bg zv c1 c2 rest)) (T : Top Mine.hd.view_39 loose mean mg mb h₀) (hk : cs.kind = .function)
    (hd : dp + 8 < recursionLimit) (hX : X.length ≤ 8) (aX : AsciiS X) (hg : g1 = X.length) (hb1 : 1 ≤ bg) (hb2 : bg ≤ zv) (hb3 : zv ≤ X.length + 1) (hI : IntsAre zs zi) (hz : zi.length = 8) (hzi : ∀ j, j < X.length → zi.getD j 0 = Int.ofNat (X.cps.toList.getD j 0))
    (good : bg ≤ min i1 i2 → max i1 i2 ≤ zv → ∀ Y h' tk' t, Y.cps.toList = (X.cps.toList.drop (min i1 i2 - 1).toNat).take (max i1 i2 - min i1 i2).toNat → Fr h₀ L h' m → News h₀ L h' (ledB w.params tt uu tt' uu' nm lc tx td bx bd mk lr zs n2 g1 pt bg zv c1 c2 rest) → Q (.str Y t) { s with heap := h', toks := tk' })
    (bad : (min i1 i2 < bg ∨ zv < max i1 i2) → ∀ l h' tk' n t, Fr h₀ L h' m → News h₀ L h' ((l, listOf #[.str (Str.ofString "args-out-of-range") t] n) :: ledB w.params tt uu tt' uu' nm lc tx td bx bd mk lr zs n2 g1 pt bg zv c1 c2 rest) → Q (.ref l) { s with heap := h', toks := tk' }) :
    wpAny (model PR w) (ktrTop dp un gd cn cs L a ccd cl outer) (call (.ref 487) [.ref bx, .int i1 t4, .int i2 t5]) Q E s := by
  by_cases h : bg ≤ min i1 i2 ∧ max i1 i2 ≤ zv
  · exact told_good B F X' N T hk hd hX aX hg hb1 hb2 hb3 hI hz hzi h (good h.1 h.2)
  · have h' : min i1 i2 < bg ∨ zv < max i1 i2 := by omega
    refine told_bad (nm := nm) (lr := lr) (mk := mk) (tx := tx) (bd := bd) (tt' := tt') (uu' := uu') (pt := pt) (c1 := c1) (c2 := c2) (news := ledB w.params tt uu tt' uu' nm lc tx td bx bd mk lr zs n2 g1 pt bg zv c1 c2 rest) B F X' ?_ T hk hd h' fun l h'' tk' n t F' N' _ => bad h' l h'' tk' n t F' N'
    intro p hp
    rcases List.mem_cons.mp hp with rfl | hp
    · exact N _ (.tail _ (.tail _ (.tail _ (.head _))))
    rcases List.mem_cons.mp hp with rfl | hp
    · exact N _ (.tail _ (.tail _ (.tail _ (.tail _ (.head _)))))
    exact N _ hp
local macro_rules | `(tactic| walk_at "pyIter ref") => `(tactic| (k_here; refine stopHere ?_))
local macro_rules | `(tactic| walk_at "call ref") => `(tactic| (k_here; (with_reducible show wpAny _ _ (call (Value.ref 487) _) _ _ _); refine stopHere ?_))
local macro_rules | `(tactic| k_all) => `(tactic| assumption)
section
variable {w : World} {loose : List Str} {mean : ExcName → Option Value} {mg mb : Str → Option Value} {H0 : Heap} {L fa dk di : Addr} {cd : Value} {m : Str → Option Value} {s : Shared} {E : Value → Shared → Prop} {Q : Flow → Shared → Prop}
  {o : Obj} {n1 : Nat} {ys : List Value} {ds : List Int} {k : Int} {t : Tok} {one text other : Str} {t1 t2 t3 : Tok}


variable {bx bd tx td mk md lr lc dr : Addr} {tt uu tt' uu' : Nat → Tok} {nm : Str} {t9 : Tok} {zs cs : List Value} {zi ci : List Int} {n2 n3 n4 : Nat} {orow : Obj} {i1 i2 : Int} {t4 t5 : Tok} {pt bg zv c1 c2 g1 : Int}

theorem seg12 {ta tb : Tok}
   (B : Below callerA H0 [] H0) (F : Fr H0 L s.heap m) (X : (Mine.hd.heap_39 w.params).In H0) (T : Top Mine.hd.view_39 loose mean mg mb H0)
   (N : News H0 L s.heap (ledB w.params tt uu tt' uu' nm lc tx td bx bd mk lr zs n2 g1 pt bg zv c1 c2 [(dk, listOf #[.ref di, .int k t] n1), (di, LCg.lst ys), (L+1, o)]))
   (m2 : m (Str.ofString "text") = some (.str text t2)) (m3 : m (Str.ofString "own_buffer") = some (.ref bx)) (m4 : m (Str.ofString "low") = some (.int bg ta)) (m5 : m (Str.ofString "high") = some (.int zv tb)) (l2 : text.length ≤ 8) (a1 : AsciiS text) (hg : g1 = text.length) (hb1 : 1 ≤ bg) (hb2 : bg ≤ zv) (hb3 : zv ≤ text.length + 1) (hI : IntsAre zs zi) (hz : zi.length = 8) (hzi : ∀ j, j < text.length → zi.getD j 0 = Int.ofNat (text.cps.toList.getD j 0))
   (hd : IntsAre ys ds) (hl : ds.length ≤ 63) (ho : Obj.data o = Data.cell (some (Value.ref dk))) (hk0 : 0 ≤ k) (hk1 : k < 60)
   (h1 : @LT.lt Nat _ di dk) (h2 : @LT.lt Nat _ (L+1) dk) (q1 : @LT.lt Nat _ dk bd) (q2 : @LT.lt Nat _ bd bx) (q3 : @LT.lt Nat _ bx td) (q4 : @LT.lt Nat _ td tx) (q5 : @LT.lt Nat _ tx lc)
   (hq : ∀ h' tk' m' XX, Fr H0 L h' m' → News H0 L h' XX → Q .next { s with heap := h', toks := tk' })
   : wpAny (model PR w) (lawA L fa cd) (exec (lawN 12) (lawE L fa cd)) Q (fun _ _ => False) s := by
  have w1 : @LT.lt Nat _ dk bx := Nat.lt_trans q1 q2
  have w2 : @LT.lt Nat _ dk td := Nat.lt_trans w1 q3
  have w3 : @LT.lt Nat _ dk tx := Nat.lt_trans w2 q4
  have w4 : @LT.lt Nat _ dk lc := Nat.lt_trans w3 q5
  dsimp only [ledB] at N
  dsimp only [lawE, lawA, lawN, lawBody, lawScope, defAt, PySem.Challenge.pw_ok0059_01, List.getElem?_cons_succ, List.getElem?_cons_zero, Option.map_some, Option.getD_some]
  try k_fold
  k_steps
  unfold Stop
  refine' it12 ?hh ?hr ?F ?N ?m1 ?m2 ?m3 ?m4 ?_ ?_
  case hr => assumption
  case F => k_asm
  case N => k_asm
  case hh => rfl
  case m1 => exact m3
  case m2 => exact m4
  case m3 => exact m5
  case m4 => exact m2
  · intro i k9 t' k' m₁ t9 h9 tk9 own hi hk2 hk3 hoff F₁ N₁
    dsimp only [ledB, List.cons_append, List.nil_append] at N₁ hoff
    have hod : ∀ p ∈ (di, LCg.lst ys) :: (L+1, o) :: own, p.1 ≠ dk := by
      intro p hp
      rcases List.mem_cons.mp hp with rfl | hp
      · exact Nat.ne_of_lt h1
      rcases List.mem_cons.mp hp with rfl | hp
      · exact Nat.ne_of_lt h2
      exact hoff p hp _ (.tail _ (.tail _ (.tail _ (.tail _ (.tail _ (.head _))))))
    k_steps
    all_goals unfold Stop
    all_goals rename News H0 _ _ _ => N9
    all_goals rename Fr H0 _ _ _ => F9
    all_goals refine told_any (X := text) (rest := (dk, _) :: (di, LCg.lst ys) :: (L+1, o) :: own) B F9 X (fun p hp => N9 p (.tail _ (.tail _ hp))) T rfl (by ktr_room) l2 a1 hg hb1 hb2 hb3 hI hz hzi ?_ ?_
    · intro hg1 hg2 Y h' tk' t hY F' N'
      k_steps
      all_goals try (exfalso; omega)
      · rename (_ != _) = true => hne
        exact absurd (told_eq hY (by omega) (by omega) (by omega) (by omega) (by omega)) (bne_iff_ne.mp hne)
      · rename News H0 _ _ _ => N9
        rename Fr H0 _ _ _ => F9
        exact end12 F9 N9 hoff (by omega) (by omega) rfl rfl rfl rfl
    · intro hbd l h' tk' n t F' N'
      k_steps
      all_goals try (exfalso; omega)
      all_goals rename News H0 _ _ _ => N9
      all_goals rename Fr H0 _ _ _ => F9
      all_goals exact end12 F9 (fun p hp => N9 p (.tail _ (.tail _ hp))) hoff (by omega) (by omega) rfl rfl rfl rfl
    · intro hg1 hg2
      exfalso; omega
    · intro hbd l h' tk' n t F' N'
      k_steps
      all_goals rename News H0 _ _ _ => N9
      all_goals rename Fr H0 _ _ _ => F9
      all_goals exact end12 F9 (fun p hp => N9 p (.tail _ (.tail _ hp))) hoff (by omega) (by omega) rfl rfl rfl rfl
  · intro m₁ nx h tk F₁ N₁
    exact hq _ _ _ _ F₁ N₁
theorem seg13 {XX : List (Addr × Obj)}
   (B : Below callerA H0 [] H0) (F : Fr H0 L s.heap m) (X : (Mine.hd.heap_39 w.params).In H0) (T : Top Mine.hd.view_39 loose mean mg mb H0) (N : News H0 L s.heap XX)
   (hq : ∀ h' tk' m', Fr H0 L h' m' → Q (.ret (.bool true)) { s with heap := h', toks := tk' })
   : wpAny (model PR w) (lawA L fa cd) (exec (lawN 13) (lawE L fa cd)) Q E s := by
  dsimp only [lawE, lawA, lawN, lawBody, lawScope, defAt, PySem.Challenge.pw_ok0059_01, List.getElem?_cons_succ, List.getElem?_cons_zero, Option.map_some, Option.getD_some]
  try k_fold
  k_steps
  exact hq _ _ _ (by assumption)
end
end GSeg12
section GRun
theorem news_of {h₀ h : Heap} {L : Addr} {XX l : List (Addr × Obj)} (N : News h₀ L h XX) (hl : ∀ p ∈ l, p ∈ XX) : News h₀ L h l := fun p hp => N p (hl p hp)
theorem mnil {α : Type} {XX : List α} : ∀ q ∈ ([] : List α), q ∈ XX := fun _ h => nomatch h
theorem mcons {α : Type} {XX l : List α} {p : α} (h : p ∈ XX) (hl : ∀ q ∈ l, q ∈ XX) : ∀ q ∈ p :: l, q ∈ XX := List.forall_mem_cons.mpr ⟨h, hl⟩
theorem zeros8 (t : Tok) : IntsAre [.int 0 t, .int 0 t, .int 0 t, .int 0 t, .int 0 t, .int 0 t, .int 0 t, .int 0 t] [0, 0, 0, 0, 0, 0, 0, 0] :=
  .cons _ _ (.cons _ _ (.cons _ _ (.cons _ _ (.cons _ _ (.cons _ _ (.cons _ _ (.cons _ _ .nil)))))))
theorem codes_len (X : Str) : (codes X).length = X.length := by simp [codes, Str.length]
theorem codes_pad {X : Str} {zi : List Int} (j : Nat) (h : j < X.length) : (codes X ++ zi.drop (codes X).length).getD j 0 = Int.ofNat (X.cps.toList.getD j 0) := by
  have hl : j < (codes X).length := by rw [codes_len]; exact h
  rw [← getD_codes, List.getD_eq_getElem?_getD, List.getD_eq_getElem?_getD, List.getElem?_append_left hl]
theorem codes_pad_len {X : Str} {zi : List Int} (hz : zi.length = 8) (h : X.length ≤ 8) : (codes X ++ zi.drop (codes X).length).length = 8 := by
  rw [List.length_append, List.length_drop, codes_len]; omega
section
variable {w : World} {loose : List Str} {mean : ExcName → Option Value} {mg mb : Str → Option Value} {H0 : Heap} {L fa dk di : Addr} {cd : Value} {m : Str → Option Value} {s : Shared} {Q : Flow → Shared → Prop}
  {o : Obj} {n1 : Nat} {ys : List Value} {ds : List Int} {k : Int} {t : Tok} {text : Str} {t2 : Tok}
  {bx bd tx td mk md lr lc dr : Addr} {tt uu tt' uu' : Nat → Tok} {nm : Str} {t9 : Tok} {zs : List Value} {zi : List Int} {n2 n3 : Nat} {orow : Obj} {pt bg zv c1 c2 g1 : Int}
theorem run12 {ta tb : Tok}
   (B : Below callerA H0 [] H0) (F : Fr H0 L s.heap m) (X : (Mine.hd.heap_39 w.params).In H0) (T : Top Mine.hd.view_39 loose mean mg mb H0)
   (N : News H0 L s.heap (ledB w.params tt uu tt' uu' nm lc tx td bx bd mk lr zs n2 g1 pt bg zv c1 c2 [(dk, listOf #[.ref di, .int k t] n1), (di, LCg.lst ys), (L+1, o)]))
   (m2 : m (Str.ofString "text") = some (.str text t2)) (m3 : m (Str.ofString "own_buffer") = some (.ref bx)) (m4 : m (Str.ofString "low") = some (.int bg ta)) (m5 : m (Str.ofString "high") = some (.int zv tb)) (l2 : text.length ≤ 8) (a1 : AsciiS text) (hg : g1 = text.length) (hb1 : 1 ≤ bg) (hb2 : bg ≤ zv) (hb3 : zv ≤ text.length + 1) (hI : IntsAre zs zi) (hz : zi.length = 8) (hzi : ∀ j, j < text.length → zi.getD j 0 = Int.ofNat (text.cps.toList.getD j 0))
   (hd : IntsAre ys ds) (hl : ds.length ≤ 63) (ho : Obj.data o = Data.cell (some (Value.ref dk))) (hk0 : 0 ≤ k) (hk1 : k < 60)
   (h1 : @LT.lt Nat _ di dk) (h2 : @LT.lt Nat _ (L+1) dk) (q1 : @LT.lt Nat _ dk bd) (q2 : @LT.lt Nat _ bd bx) (q3 : @LT.lt Nat _ bx td) (q4 : @LT.lt Nat _ td tx) (q5 : @LT.lt Nat _ tx lc)
   (hq : ∀ h' tk' m', Fr H0 L h' m' → Q (.ret (.bool true)) { s with heap := h', toks := tk' })
   : wpAny (model PR w) (lawA L fa cd) (execs [lawN 12, lawN 13] (lawE L fa cd)) Q (fun _ _ => False) s := by
  refine wpAny_execs_cons (seg12 B F X T N m2 m3 m4 m5 l2 a1 hg hb1 hb2 hb3 hI hz hzi hd hl ho hk0 hk1 h1 h2 q1 q2 q3 q4 q5 ?_)
  · intro h' tk' m' XX F' N'
    exact wpAny_execs_cons (seg13 B F' X T N' fun h' tk' m' F' => hq h' tk' m' F')
theorem run11 {ta tb : Tok}
   (B : Below callerA H0 [] H0) (F : Fr H0 L s.heap m) (X : (Mine.hd.heap_39 w.params).In H0) (T : Top Mine.hd.view_39 loose mean mg mb H0)
   (N : News H0 L s.heap (ledB w.params tt uu tt' uu' nm lc tx td bx bd mk lr zs n2 g1 pt bg zv c1 c2 [(dk, listOf #[.ref di, .int k t] n1), (di, LCg.lst ys), (L+1, o)]))
   (m2 : m (Str.ofString "text") = some (.str text t2)) (m3 : m (Str.ofString "own_buffer") = some (.ref bx)) (m4 : m (Str.ofString "low") = some (.int bg ta)) (m5 : m (Str.ofString "high") = some (.int zv tb)) (l2 : text.length ≤ 8) (a1 : AsciiS text) (hg : g1 = text.length) (hb1 : 1 ≤ bg) (hb2 : bg ≤ zv) (hb3 : zv ≤ text.length + 1) (hI : IntsAre zs zi) (hz : zi.length = 8) (hzi : ∀ j, j < text.length → zi.getD j 0 = Int.ofNat (text.cps.toList.getD j 0))
   (hd : IntsAre ys ds) (hl : ds.length ≤ 63) (ho : Obj.data o = Data.cell (some (Value.ref dk))) (hk0 : 0 ≤ k) (hk1 : k < 60)
   (h1 : @LT.lt Nat _ di dk) (h2 : @LT.lt Nat _ (L+1) dk) (q1 : @LT.lt Nat _ dk bd) (q2 : @LT.lt Nat _ bd bx) (q3 : @LT.lt Nat _ bx td) (q4 : @LT.lt Nat _ td tx) (q5 : @LT.lt Nat _ tx lc)
   (hq : ∀ h' tk' m', Fr H0 L h' m' → Q (.ret (.bool true)) { s with heap := h', toks := tk' })
   : wpAny (model PR w) (lawA L fa cd) (execs [lawN 11, lawN 12, lawN 13] (lawE L fa cd)) Q (fun _ _ => False) s := by
  refine wpAny_execs_cons (seg11 B F X T N m2 m3 m4 m5 l2 a1 hg hb1 hb2 hb3 hI hz hzi h1 h2 q1 q2 q3 q4 q5 ?_)
  intro h' tk' u p F' N'
  exact run12 B F' X T N' m2 m3 m4 m5 l2 a1 hg hb1 hb2 hb3 hI hz hzi hd hl ho hk0 hk1 h1 h2 q1 q2 q3 q4 q5 fun h' tk' m' F' => hq h' tk' m' F'
theorem run9 {ta tb : Tok}
   (B : Below callerA H0 [] H0) (F : Fr H0 L s.heap m) (X : (Mine.hd.heap_39 w.params).In H0) (T : Top Mine.hd.view_39 loose mean mg mb H0)
   (N : News H0 L s.heap (ledB w.params tt uu tt' uu' nm lc tx td bx bd mk lr zs n2 g1 pt 1 zv c1 c2 [(dk, listOf #[.ref di, .int k t] n1), (di, LCg.lst ys), (L+1, o)]))
   (m2 : m (Str.ofString "text") = some (.str text t2)) (m3 : m (Str.ofString "own_buffer") = some (.ref bx)) (m4 : m (Str.ofString "low") = some (.int 1 ta)) (m5 : m (Str.ofString "high") = some (.int zv tb)) (l2 : text.length ≤ 8) (a1 : AsciiS text) (hg : g1 = text.length) (hb2 : zv = text.length + 1) (hI : IntsAre zs zi) (hz : zi.length = 8) (hzi : ∀ j, j < text.length → zi.getD j 0 = Int.ofNat (text.cps.toList.getD j 0))
   (hd : IntsAre ys ds) (hl : ds.length ≤ 63) (ho : Obj.data o = Data.cell (some (Value.ref dk))) (hk0 : 0 ≤ k) (hk1 : k < 40)
   (h1 : @LT.lt Nat _ di dk) (h2 : @LT.lt Nat _ (L+1) dk) (q1 : @LT.lt Nat _ dk bd) (q2 : @LT.lt Nat _ bd bx) (q3 : @LT.lt Nat _ bx td) (q4 : @LT.lt Nat _ td tx) (q5 : @LT.lt Nat _ tx lc)
   (hq : ∀ h' tk' m', Fr H0 L h' m' → Q (.ret (.bool true)) { s with heap := h', toks := tk' })
   : wpAny (model PR w) (lawA L fa cd) (execs [lawN 9, lawN 10, lawN 11, lawN 12, lawN 13] (lawE L fa cd)) Q (fun _ _ => False) s := by
  refine wpAny_execs_cons (seg9 B F X T N m2 m3 m4 m5 l2 a1 hg (by omega) (by omega) (by omega) hI hz hzi h1 h2 q1 q2 q3 q4 q5 ?_)
  intro h' tk' u p F' N'
  refine wpAny_execs_cons (seg10 B F' X T N' m2 m3 m4 m5 l2 hg hb2 hI hz hd hl ho hk0 hk1 h1 h2 q1 q2 q3 q4 q5 ?_)
  intro h2' tk2 m' XX pp bb zz b' z' k' y4 y5 y6 ta' tb' t2' F2 N2 e1 e2 e3 e4 z1 z2 z3 z4 z5 z6 z7 z8 eb ez c1' c2' c3' c4' c5'
  subst eb ez
  exact run11 B F2 X T (led_deck N2 z1 z2 z3 z4 (pack_buf z5) z6 z7 z8) e1 e2 e3 e4 l2 a1 hg c1' c2' c3' hI hz hzi hd hl ho (by omega) (by omega) h1 h2 q1 q2 q3 q4 q5 fun h' tk' m' F' => hq h' tk' m' F'
theorem run8 {tl th : Tok}
   (B : Below callerA H0 [] H0) (F : Fr H0 L s.heap m) (X : (Mine.hd.heap_39 w.params).In H0) (T : Top Mine.hd.view_39 loose mean mg mb H0)
   (N : News H0 L s.heap [(lr, listOf #[] n3), (dr, orow), (mk, instObj 318 md), (md, dictOf (mrkD w.params t9 dr) 1), (lc, listOf zs.toArray n2), (tx, instObj 248 td), (td, dictOf (gapD w.params tt uu lc 0 8) 4), (bx, instObj 459 bd), (bd, dictOf (bufD w.params tt' uu' nm tx mk lr 1 1 1 1 1) 20), (dk, listOf #[.ref di, .int k t] n1), (di, LCg.lst ys), (L+1, o)])
   (m2 : m (Str.ofString "text") = some (.str text t2)) (m3 : m (Str.ofString "own_buffer") = some (.ref bx)) (m4 : m (Str.ofString "low") = some (.int 1 tl)) (m5 : m (Str.ofString "high") = some (.int (text.length + 1) th)) (l2 : text.length ≤ 8) (a1 : AsciiS text)
   (hz : IntsAre zs zi) (hlz : zi.length = 8)
   (hd : IntsAre ys ds) (hl : ds.length ≤ 63) (ho : Obj.data o = Data.cell (some (Value.ref dk))) (hk0 : 0 ≤ k) (hk1 : k < 40)
   (h1 : @LT.lt Nat _ di dk) (h2 : @LT.lt Nat _ (L+1) dk) (q1 : @LT.lt Nat _ dk bd) (q2 : @LT.lt Nat _ bd bx) (q3 : @LT.lt Nat _ bx td) (q4 : @LT.lt Nat _ td tx) (q5 : @LT.lt Nat _ tx lc) (q6 : @LT.lt Nat _ lc md) (q7 : @LT.lt Nat _ md mk) (q8 : @LT.lt Nat _ mk dr) (q9 : @LT.lt Nat _ dr lr) (qa : (dr == sysModules) = false) (qb : Obj.IsDictOf (PySem.strKind PR w) orow []) (qc : PyProof.V.FlatPairs PyData.str [] []) (qd : Obj.IsDictOf (PySem.intKind PR w) orow []) (qe : PyProof.V.FlatPairs PyData.int [] [])
   (hq : ∀ h' tk' m', Fr H0 L h' m' → Q (.ret (.bool true)) { s with heap := h', toks := tk' })
   : wpAny (model PR w) (lawA L fa cd) (execs [lawN 8, lawN 9, lawN 10, lawN 11, lawN 12, lawN 13] (lawE L fa cd)) Q (fun _ _ => False) s := by
  refine wpAny_execs_cons (seg8 B F X T N m2 m3 m4 m5 l2 (ascii_all a1) hz hlz h1 h2 q1 q2 q3 q4 q5 q6 q7 q8 q9 qa qb qc qd qe ?_)
  intro h' tk' v XX ws pp zz gg hh d1 d2 y4 y6 y10 y11 x2 x3 F' N' z1 z2 z3 z4 z5 z6 z7 z8 iw ez eg eh
  rw [codes_len] at ez eg
  subst ez eg eh
  exact run9 B F' X T (led_deck N' z1 z2 (pack_gap z3) z4 (pack_buf z5) z6 z7 z8) m2 m3 m4 m5 l2 a1 rfl rfl iw (codes_pad_len hlz l2) codes_pad hd hl ho hk0 hk1 h1 h2 q1 q2 q3 q4 q5 fun h' tk' m' F' => hq h' tk' m' F'
theorem run1
   (B : Below callerA H0 [] H0) (F : Fr H0 L s.heap m) (X : (Mine.hd.heap_39 w.params).In H0) (T : Top Mine.hd.view_39 loose mean mg mb H0)
   (N : News H0 L s.heap [(dk, listOf #[.ref di, .int 0 t] n1), (di, LCg.lst ys), (L+1, o)])
   (hd : IntsAre ys ds) (hl : ds.length ≤ 63) (ho : Obj.data o = Data.cell (some (Value.ref dk)))
   (h1 : @LT.lt Nat _ di dk) (h2 : @LT.lt Nat _ (L+1) dk)
   (hq : ∀ h' tk' m', Fr H0 L h' m' → Q (.ret (.bool true)) { s with heap := h', toks := tk' })
   : wpAny (model PR w) (lawA L fa cd) (execs [lawN 1, lawN 2, lawN 3, lawN 4, lawN 5, lawN 6, lawN 7, lawN 8, lawN 9, lawN 10, lawN 11, lawN 12, lawN 13] (lawE L fa cd)) Q (fun _ _ => False) s := by
  have e0 : AsciiS (Str.ofString "aBz\n b") := by decide
  have e00 : AsciiS (Str.ofString "abAB") := by decide
  refine wpAny_execs_cons (seg1 B F X T N hd hl h1 h2 ho (by omega) (by omega) ?_)
  intro text t2 ha1 tk1 k1 u1 l2 it c1 c2 F1 N1
  refine wpAny_execs_cons (seg2 B F1 X T N1 hd hl h1 h2 ho (by omega) (by omega) ?_)
  intro one to ha2 tk2 k2 u2 l1 io c3 c4 F2 N2
  refine wpAny_execs_cons (seg3 B F2 X T N2 hd hl h1 h2 ho (by omega) (by omega) (one := one) (text := text) (t1 := to) (t2 := t2) rfl rfl ?_)
  intro r tr ha3 tk3 k3 u3 m3 r0 r1 c5 c6 m31 m32 m33 m34 F3 N3
  refine wpAny_execs_cons (seg4 B F3 X T N3 hd hl h1 h2 ho (by omega) (by omega) m31 m32 m33 m34 r0 r1 l1 io ?_)
  intro other tp ha4 tk4 k4 u4 m4 lo ip c7 c8 m41 m42 m43 F4 N4
  refine wpAny_execs_cons (seg5 B F4 X T N4 hd hl h1 h2 ho (by omega) (by omega) m41 m42 m43 (ascii_all (ascii_lit e00 io)) (ascii_all (ascii_lit e00 ip)) l1 lo ?_)
  intro D1 D2 xs zs ha5 tk5 m5 m51 m52 m53 m54 m55 ix iz F5 N5
  refine wpAny_execs_cons (seg6 B F5 X T N5 m51 m52 m53 m54 m55 (ascii_lit e00 io) (ascii_lit e00 ip) l1 lo rfl rfl ix iz (by rw [codes_len]; omega) (by rw [codes_len]; omega) ?_)
  intro ha6 tk6 m6 m62 F6 N6
  refine wpAny_execs_cons (seg7 B F6 X T N6 h1 h2 m62 l2 ?_)
  intro ha7 tk7 m7 XX bx bd tx td mk md lr lc dr orow e0 e1 e2 e3 f0 f2 f3 t9 tz th tl tt' uu' n2 n3 F7 N7 m71 m72 m73 m74 x1 x2 x3 x4 x5 x6 x7 x8 x9 x10 x11 x12 q1 q2 q3 q4 q5 q6 q7 q8 q9 r1 r2 r3 r4 r5
  exact run8 B F7 X T (news_of N7 (mcons x9 (mcons x8 (mcons x6 (mcons x7 (mcons x5 (mcons x3 (mcons (pack_gap7 x4) (mcons x1 (mcons x2 (mcons x10 (mcons x11 (mcons x12 mnil)))))))))))))
    m71 m72 m73 m74 l2 (ascii_lit (by assumption) it) (zeros8 tz) rfl hd hl ho (by omega) (by omega) h1 h2 q1 q2 q3 q4 q5 q6 q7 q8 q9 r1 r2 r3 r4 r5 fun h' tk' m' F' => hq h' tk' m' F'
end
end GRun
end Mine
open PySem PySem.W PyProof.Rows PySem.Calls PySem.Spec
set_option maxRecDepth 100000
set_option maxHeartbeats 8000000
namespace Mine
theorem cutQ {M : Model} {A : Around} {E : Value → Shared → Prop} {s : Shared} {env : Env} {st : Stmt} {rest : List Stmt} {Q : Flow → Shared → Prop} (P : Shared → Prop)
    (h1 : ∀ Q' : Flow → Shared → Prop, (∀ s', P s' → Q' .next s') → wpAny M A (exec st env) Q' E s)
    (h2 : ∀ s', P s' → wpAny M A (execs rest env) Q E s') : wpAny M A (execs (st :: rest) env) Q E s :=
  wpAny_execs_cons (h1 _ h2)
theorem drop3 {h₀ h : Heap} {L : Addr} {a b c : Addr × Obj} {r : List (Addr × Obj)} (N : News h₀ L h (a :: b :: c :: r)) : News h₀ L h (a :: b :: r) := by
  intro p hp
  rcases List.mem_cons.mp hp with rfl | hp
  · exact N _ (.head _)
  rcases List.mem_cons.mp hp with rfl | hp
  · exact N _ (.tail _ (.head _))
  exact N _ (.tail _ (.tail _ (.tail _ hp)))
end Mine
theorem Mine.law_holds : PySem.Challenge.rw_ok0059_01.Holds := Mine.hd (by
  w_strict (k_go0; (all_goals try k_fold))
  rename Shared => s1
  rename Top _ _ _ _ _ _ => T1
  rename Frag.In _ _ => X1
  rename Below _ _ _ _ => B1
  refine Mine.cutQ (fun s' => ∃ (h' : Heap) (tk' : Nat) (m' : Str → Option Value) (dk di : Addr) (o : Obj) (n1 : Nat) (ys : List Value) (ds : List Int) (t : Tok), s' = { s1 with heap := h', toks := tk' } ∧ Fr s1.heap s1.heap.objs.size h' m' ∧ News s1.heap s1.heap.objs.size h' [(dk, listOf #[.ref di, .int 0 t] n1), (di, LCg.lst ys), (s1.heap.objs.size+1, o)] ∧ IntsAre ys ds ∧ ds.length ≤ 63 ∧ @LT.lt Nat _ di dk ∧ @LT.lt Nat _ (s1.heap.objs.size+1) dk ∧ Obj.data o = Data.cell (some (Value.ref dk))) ?_ ?_
  · intro Q' hQ'
    k_steps
    rename News _ _ _ _ => N9
    rename Fr _ _ _ _ => F9
    rename _ ∧ _ => l9
    exact hQ' _ ⟨_, _, _, _, _, _, _, _, _, _, rfl, F9, Mine.drop3 N9, by assumption, by (rw [List.length_map, List.length_take]; omega), l9.1, l9.2.2, by assumption⟩
  · rintro s' ⟨h', tk', m', dk, di, o, n1, ys, ds, t, hs, F, N, hI, hl, h1, h2, ho⟩
    subst hs
    refine wpAny_mono (Mine.run1 (s := { s1 with heap := h', toks := tk' }) B1 F X1 T1 N hI hl ho h1 h2 (Q := fun f s₂ => f = .ret (.bool true) ∧ ∃ h'' tk'' m'', s₂ = { s1 with heap := h'', toks := tk'' } ∧ Fr s1.heap s1.heap.objs.size h'' m'') (fun h'' tk'' m'' F'' => ⟨rfl, h'', tk'', m'', rfl, F''⟩)) ?_ (fun _ _ e => e.elim)
    rintro f s₂ ⟨rfl, h'', tk'', m'', rfl, F''⟩
    clear F N
    k_steps)
theorem PySem.Challenge.cw_ok0059_01_holds : PySem.Challenge.rw_ok0059_01.Holds :=
  Mine.law_holds
